/- The seat's codes stand the evaluator's look; its library calls say what they say. -/
import Derived.Test.YtkocimfdgdegfaaGreatDoorETab
import Derived.Test.YtkocimfdgdegfaaGreatDoorECont
set_option linter.unusedSimpArgs false
set_option linter.unusedVariables false
open Go Go.Proofs Go.Proofs.YtkocimfdgdegfaaGreatDoor
namespace Go.Proofs.YtkocimfdgdegfaaGreatDoor.E.S11
theorem codesOK (m : Int) : (List.range 162).all (fun f => match Tryz.prog.funcs[f]? with
      | some fn => !(fn.name == "runtime.NumGoroutine") && (match FI.of fn with | some fi => codeOK (cfg m) f fi.body | none => true)
      | none => true) = true := by kernel_rfl
theorem ordOK : Tryz.prog.follows .mixedOrders = true := by kernel_rfl
theorem containsSays : ContainsSays Tryz.prog 23 0 := fun s sub m w hs hm => Tryz.strings_Contains s sub m w hs hm
set_option maxRecDepth 100000 in
theorem extOK (m : Int) : ∀ f e, ext f = some e → ∀ args v hp, e args = some v → ∀ B w0 L w (rargs : List Value), Inv (glob m) B w0 L w hp → CR hp.length L w args rargs → FCalls Tryz.prog f rargs.toArray w (CallPost (cfg m) B w0 L w hp.length v hp) := by
  intro f e he args v hp hv B w0 L w rargs hI hA
  unfold ext at he
  cases h1 : Nat.beq f 81 with
  | true =>
    rw [h1] at he
    cases he
    obtain rfl := Nat.eq_of_beq_eq_true h1
    exact extIx_ok (C := cfg m) Tryz.func81 (by kernel_rfl) (by kernel_rfl) (by kernel_rfl) (by kernel_rfl) args v hp hv B w0 L w rargs hI hA
  | false =>
    rw [h1] at he
    cases h2 : Nat.beq f 23 with
    | true =>
      rw [h2] at he
      cases he
      obtain rfl := Nat.eq_of_beq_eq_true h2
      exact extCt_ok (C := cfg m) (m := m) Tryz.func23 (by kernel_rfl) (by kernel_rfl) containsSays rfl args v hp hv B w0 L w rargs hI hA
    | false => rw [h2] at he; cases he
set_option maxRecDepth 100000 in
theorem tab (m : Int) : TabOK Tryz.prog (cfg m) := mkTab tysOK fnsOK (codesOK m) ordOK (extOK m)
end Go.Proofs.YtkocimfdgdegfaaGreatDoor.E.S11
