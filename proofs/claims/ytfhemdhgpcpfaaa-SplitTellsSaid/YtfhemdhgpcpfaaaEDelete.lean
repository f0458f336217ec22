/- slices.DeleteFunc of a row of pieces. -/
import Derived.Test.YtfhemdhgpcpfaaaEIndex
set_option linter.unusedSimpArgs false
set_option linter.unusedVariables false
namespace Go.Proofs.Ytfhemdhgpcpfaaa.E.S1
open Go Go.Proofs E

noncomputable def HD (b len c d : Nat) (i j : Int) (hp : List Blk) : St := ⟨slots Try.f16.ntmps [(0, .arr 2 b 0 len), (1, del c d), (5, .int .i64 i), (6, .int .i64 j)], hp⟩
noncomputable abbrev LD (k fl : Nat) := loopN cfg (evCall cfg k fl) fl 16 k (bodyOf Try.f16 5) 5

theorem dlt_end (b len c d : Nat) (i j : Int) (hp : List Blk) (k fl m : Nat) (h : decide (j < (len : Int)) = false) : LD k fl (m + 1) (HD b len c d i j hp) = some (.exit 0, ⟨slots Try.f16.ntmps [(0, .arr 2 b 0 len), (5, .int .i64 i)], hp⟩) :=
  loop_exit (π := [(5, 3, .val (.bool false))]) (φs := [some (AV.bool (decide (j < (len : Int)))) = some (.bool false)]) (by kernel_rfl) (fun h => by cases h) (by rw [h]; rfl)

theorem dlt_drop (b len c d : Nat) (i j : Int) (o : Nat) (p : Int × Int) (hp : List Blk) (k fl m : Nat) (h : decide (j < (len : Int)) = true) (hj : indexAddr cfg 28 (.v (.arr 2 b 0 len)) j = some (.v (.ptr b o)))
    (hx : ∀ ts, loadAt cfg ⟨ts, hp⟩ 35 (.v (.ptr b o)) = some ⟨.v (sp p), ts, hp, .hr⟩) (hc : evCall cfg k fl 18 [sp p, .ptr c 0, .ptr d 0] hp = some (.bool true, hp)) :
    LD k fl (m + 1) (HD b len c d i j hp) = LD k fl m (HD b len c d i (IntKind.i64.wrap (j + 1)) hp) :=
  loop_step (π := [(5, 3, .val (.bool true)), (7, 2, .val (.ptr b o)), (7, 3, .mem (sp p) hp .hr), (8, 2, .res (.bool true) hp)])
    (φs := [some (AV.bool (decide (j < (len : Int)))) = some (.bool true), indexAddr cfg 28 (.v (.arr 2 b 0 len)) j = some (.v (.ptr b o)), ∀ ts, loadAt cfg ⟨ts, hp⟩ 35 (.v (.ptr b o)) = some ⟨.v (sp p), ts, hp, .hr⟩,
      evCall cfg k fl 18 [sp p, .ptr c 0, .ptr d 0] hp = some (.bool true, hp)]) (by kernel_rfl) (by rw [h]; exact ⟨rfl, hj, hx, hc⟩)

theorem dlt_keep (b len c d : Nat) (i j : Int) (o u : Nat) (p : Int × Int) (hp hp' : List Blk) (k fl m : Nat) (h : decide (j < (len : Int)) = true) (hj : indexAddr cfg 28 (.v (.arr 2 b 0 len)) j = some (.v (.ptr b o)))
    (hx : ∀ ts, loadAt cfg ⟨ts, hp⟩ 35 (.v (.ptr b o)) = some ⟨.v (sp p), ts, hp, .hr⟩) (hc : evCall cfg k fl 18 [sp p, .ptr c 0, .ptr d 0] hp = some (.bool false, hp))
    (hi : indexAddr cfg 28 (.v (.arr 2 b 0 len)) i = some (.v (.ptr b u))) (hs : ∀ ts, storeAt cfg fl ⟨ts, hp⟩ 35 (.v (.ptr b u)) (sp p) = some ⟨.sk, ts, hp', .hw⟩) :
    LD k fl (m + 1) (HD b len c d i j hp) = LD k fl m (HD b len c d (IntKind.i64.wrap (i + 1)) (IntKind.i64.wrap (j + 1)) hp') :=
  loop_step (π := [(5, 3, .val (.bool true)), (7, 2, .val (.ptr b o)), (7, 3, .mem (sp p) hp .hr), (8, 2, .res (.bool false) hp), (9, 3, .val (.ptr b u)), (9, 4, .sto hp' .hw)])
    (φs := [some (AV.bool (decide (j < (len : Int)))) = some (.bool true), indexAddr cfg 28 (.v (.arr 2 b 0 len)) j = some (.v (.ptr b o)), ∀ ts, loadAt cfg ⟨ts, hp⟩ 35 (.v (.ptr b o)) = some ⟨.v (sp p), ts, hp, .hr⟩,
      evCall cfg k fl 18 [sp p, .ptr c 0, .ptr d 0] hp = some (.bool false, hp), indexAddr cfg 28 (.v (.arr 2 b 0 len)) i = some (.v (.ptr b u)), ∀ ts, storeAt cfg fl ⟨ts, hp⟩ 35 (.v (.ptr b u)) (sp p) = some ⟨.sk, ts, hp', .hw⟩])
    (by kernel_rfl) (by rw [h]; exact ⟨rfl, hj, hx, hc, hi, hs⟩)
end Go.Proofs.Ytfhemdhgpcpfaaa.E.S1
