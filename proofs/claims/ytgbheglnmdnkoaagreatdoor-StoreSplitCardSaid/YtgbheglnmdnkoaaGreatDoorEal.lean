/- Steps of the seat's proofs: an evaluator of the program's code, its soundness, and what the functions come to. -/
import Derived.Test.YtgbheglnmdnkoaaGreatDoorEak
import Derived.Test.YtgbheglnmdnkoaaGreatDoorRows
import Derived.JoinedOf
import Derived.KernelRfl
set_option linter.unusedSimpArgs false
set_option linter.unusedVariables false
namespace Go.Proofs.YtgbheglnmdnkoaaGreatDoor.E.SF.storeSplitRow
open Go Go.Proofs Go.Proofs.YtgbheglnmdnkoaaGreatDoor
theorem jf0:(Rows.storeSplitRow.wf (OpenSpec.ofChange Rows.storeSplitSpec))=true:=by kernel_rfl
theorem jf1:(laidOutB Tryz.prog)=true:=by kernel_rfl
theorem jf2:(mapsRowed Tryz.prog)=true:=by kernel_rfl
theorem jf3:(Tryz.f7.params.all (Tryz.prog.readableRec ·))=true:=by kernel_rfl
theorem jf4:(namedTie Tryz.prog Rows.storeSplitRow.named Rows.storeSplitSpec.vars)=true:=by kernel_rfl
theorem jf5:((Rows.storeSplitRow.stops==[]))=true:=by kernel_rfl
theorem jf6:((Tryz.prog.stops==[]))=true:=by kernel_rfl
theorem jf7:((Rows.storeSplitRow.knobs==[]))=true:=by kernel_rfl
theorem jf8:((Tryz.prog.stopKnobs==[]))=true:=by kernel_rfl
theorem jf9:((Rows.storeSplitRow.inPlace==Tryz.prog.inPlace 7))=true:=by kernel_rfl
theorem jf10:((Rows.storeSplitRow.unfollowed==Tryz.prog.unfollowed 7))=true:=by kernel_rfl
theorem jf11:((Rows.storeSplitRow.recurses==Tryz.prog.recurses 7))=true:=by kernel_rfl
theorem jf12:((Rows.storeSplitRow.named==Tryz.prog.varsNamed 7))=true:=by kernel_rfl
theorem jf13:((Rows.storeSplitRow.maps==(Tryz.f7.params.toList++Rows.storeSplitSpec.plain.varTypes Tryz.prog).any (Tryz.prog.mapsRec ·)))=true:=by kernel_rfl
theorem jf14:((Rows.storeSplitRow.ifaces==(Tryz.f7.params.toList++Rows.storeSplitSpec.plain.varTypes Tryz.prog).any (Tryz.prog.ifacesRec ·)))=true:=by kernel_rfl
theorem jf15:((Rows.storeSplitRow.mapsOut==Tryz.prog.mapsAmong Tryz.f7.resultTypes.toList))=true:=by kernel_rfl
theorem jf16:((Rows.storeSplitRow.loops==(Tryz.f7.params.toList++Rows.storeSplitSpec.plain.varTypes Tryz.prog).any (Tryz.prog.loopsFrom ·)))=true:=by kernel_rfl
theorem jf17:((Rows.storeSplitRow.wideKeys==(Tryz.f7.params.toList++Rows.storeSplitSpec.plain.varTypes Tryz.prog++Tryz.f7.resultTypes.toList).any (Tryz.prog.wideKeysFrom ·)))=true:=by kernel_rfl
theorem jf18:(Rows.storeSplitSpec.vars.all (Tryz.prog.varReadable ·))=true:=by kernel_rfl
theorem jf19:(Tryz.f7.resultTypes.all (fun t=>Tryz.prog.readableRec t&&decide (t < Tryz.prog.types.size)))=true:=by kernel_rfl
theorem jf20:((Rows.storeSplitRow.ifacesOut==Tryz.f7.resultTypes.toList.any (Tryz.prog.ifacesRec ·)))=true:=by kernel_rfl
theorem jf21:((Rows.storeSplitRow.loopsOut==Tryz.f7.resultTypes.toList.any (Tryz.prog.loopsFrom ·)))=true:=by kernel_rfl
theorem jf22:((Rows.storeSplitRow.plainKeys==Tryz.prog.plainKeys))=true:=by kernel_rfl
theorem jf23:(Rows.storeSplitRow.shortTexts.isNone)=true:=by kernel_rfl
theorem jf24:(Tryz.prog.stopsHeard)=true:=by kernel_rfl
theorem jf25:(Tryz.prog.mayEnter)=true:=by kernel_rfl
theorem jf26:((Rows.storeSplitRow.lifted==Tryz.prog.liftsFinal))=true:=by kernel_rfl
theorem jf27:((Tryz.prog.make==some Rows.storeSplitRow.make))=true:=by kernel_rfl
theorem jf28:((Rows.storeSplitRow.kinds==(if Rows.storeSplitRow.domain.isEmpty then [] else Tryz.f7.params.toList.map fun t=>match Tryz.prog.underlying t with | some (.int k)=>some k | _=>none)))=true:=by kernel_rfl
theorem jf29:((Rows.storeSplitRow.pinned==Rows.storeSplitRow.pinnedBy))=true:=by kernel_rfl
theorem jf30:((Rows.storeSplitRow.veiled==(Tryz.f7.params.toList++Rows.storeSplitSpec.plain.varTypes Tryz.prog++Tryz.f7.resultTypes.toList).any (Tryz.prog.veiledRec ·)))=true:=by kernel_rfl
theorem jf31:(Rows.storeSplitRow.veiledFits Tryz.prog Tryz.f7.params.toList (Tryz.f7.params.toList++Rows.storeSplitSpec.plain.varTypes Tryz.prog++Tryz.f7.resultTypes.toList))=true:=by kernel_rfl
theorem and2 {a b:Bool} (h:a=true) (g:b=true):(a&&b)=true:=by rw [h,g];rfl
set_option maxRecDepth 100000 in
theorem joined:joinedFacts Tryz.prog 7 Tryz.f7 Rows.storeSplitSpec Rows.storeSplitRow=true:=by
 unfold joinedFacts
 exact (and2 (and2 (and2 (and2 (and2 (and2 (and2 (and2 (and2 (and2 (and2 (and2 (and2 (and2 (and2 (and2 (and2 (and2 (and2 (and2 (and2 (and2 (and2 (and2 (and2 (and2 (and2 (and2 (and2 (and2 (and2 jf0 jf1) jf2) jf3) jf4) jf5) jf6) jf7) jf8) jf9) jf10) jf11) jf12) jf13) jf14) jf15) jf16) jf17) jf18) jf19) jf20) jf21) jf22) jf23) jf24) jf25) jf26) jf27) jf28) jf29) jf30) jf31)
end Go.Proofs.YtgbheglnmdnkoaaGreatDoor.E.SF.storeSplitRow
