/- For every input the law returns true; its conditions are the given card's alone. -/
import Derived.Test.YtgbheglnmdnkoaaGreatDoorEan
import Derived.Test.YtgbheglnmdnkoaaGreatDoorCards
import Derived.Test.YtgbheglnmdnkoaaGreatDoorTie
import Derived.Carry
import Derived.ProofKit
import Derived.WalkKit
import Derived.OpenShut
import Derived.ChangeOld
import Derived.SizedLaws
import Derived.LaidMore
import Derived.Stop.Joined
import Derived.SevenTiedAt
import Derived.Stop.LaidErr
import Derived.MakeChecks
set_option linter.unusedSimpArgs false
set_option linter.unusedVariables false
namespace Go.Proofs.YtgbheglnmdnkoaaGreatDoor.E.SF.storeSplitRow
open Go Go.Proofs Go.Proofs.YtgbheglnmdnkoaaGreatDoor
open Go.ChangeShapes Go.WideShapes Go.ChangeAt Go.RowKit Go.Lib
theorem pw:Rows.storeSplitRow.wfByText (OpenSpec.ofChange Rows.storeSplitSpec)=true:=by kernel_rfl
theorem pl:true=Tryz.prog.looks []:=by kernel_rfl
theorem pg:false=Rows.storeSplitRow.goesBy Tryz.prog:=by kernel_rfl
theorem pm : Tryz.prog.mainIs = some (true, ("6357cff3d09d711a7da39d2c4a9daa87b4fce255b7fdcd7400b573e306f24684" : String).toList) := by kernel_rfl
theorem proved:Rows.StoreSplitCardSaid :=
 Claim7.holds_tied_plain_at .later [] [.data, .data, .data, .sentinel, .sentinel] true (true, "6357cff3d09d711a7da39d2c4a9daa87b4fce255b7fdcd7400b573e306f24684") true
  over (fun _ h=>by cases h) pw (fun _ h=>by cases h) storeSplit_row_tie rfl ⟨rfl,rfl⟩ pm rfl
  (fun f fn hf hfn=>by
   obtain rfl : f = 7 := Option.some.inj ((show Tryz.prog.funcNamed "archivist/archivistlaw14.StoreSplit" = some 7 by kernel_rfl).symm.trans hf) |>.symm
   obtain rfl:fn=Tryz.f7:=(Option.some.inj (Tryz.func7.symm.trans hfn)).symm
   exact ⟨pl,fun j t ht=>by
    rw [Tryz.params7] at ht
    have hm:t ∈ [51,4,77]:=by simpa using Array.mem_of_getElem? ht
    have hall:([51,4,77].all fun u => !Tryz.prog.wantsStandIn u)=true:=by kernel_rfl
    exact (show Tryz.prog.wantsStandIn t=false by simpa using List.all_eq_true.1 hall t hm)⟩)
  pg
#print axioms proved
end Go.Proofs.YtgbheglnmdnkoaaGreatDoor.E.SF.storeSplitRow
