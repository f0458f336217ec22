/- Steps of the seat's proofs: an evaluator of the program's code, its soundness, and what the functions come to. -/
import Derived.Test.YtgbheglnmdnkoaaGreatDoorEai
import Derived.KernelRfl
set_option linter.unusedSimpArgs false
set_option linter.unusedVariables false
open Go Go.Proofs
namespace Go.Proofs.YtgbheglnmdnkoaaGreatDoor.E.SF
set_option maxRecDepth 1000000 in
theorem mO3 {m:Int}:∀ n ∈ mNms,∀ o ∈ mOps,evCall (cfg1 m) 3000 0 20 [.agg [.str n, .str o.1, .str []]] []=mOf n o.1 []:=by
 intro n hn o ho
 simp only [mNms,mOps,List.mem_cons,List.not_mem_nil,or_false] at hn ho
 rcases hn with rfl | rfl | rfl <;> rcases ho with rfl | rfl | rfl | rfl <;> kernel_rfl
set_option maxRecDepth 1000000 in
theorem mO4 {m:Int}:∀ n ∈ mNms,∀ o ∈ mOps,evCall (cfg1 m) 3000 0 20 [.agg [.str n, .str o.1, .str [97,124,98]]] []=mOf n o.1 [97,124,98]:=by
 intro n hn o ho
 simp only [mNms,mOps,List.mem_cons,List.not_mem_nil,or_false] at hn ho
 rcases hn with rfl | rfl | rfl <;> rcases ho with rfl | rfl | rfl | rfl <;> kernel_rfl
set_option maxRecDepth 1000000 in
theorem mO5 {m:Int}:∀ n ∈ mNms,∀ o ∈ mOps,evCall (cfg1 m) 3000 0 20 [.agg [.str n, .str o.1, .str [120,46,42]]] []=mOf n o.1 [120,46,42]:=by
 intro n hn o ho
 simp only [mNms,mOps,List.mem_cons,List.not_mem_nil,or_false] at hn ho
 rcases hn with rfl | rfl | rfl <;> rcases ho with rfl | rfl | rfl | rfl <;> kernel_rfl
end Go.Proofs.YtgbheglnmdnkoaaGreatDoor.E.SF
