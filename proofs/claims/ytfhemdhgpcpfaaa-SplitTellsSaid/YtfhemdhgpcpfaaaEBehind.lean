/- slices.Clone of a row of pieces, and split.Behind. -/
import Derived.Test.YtfhemdhgpcpfaaaEDeletex
set_option linter.unusedSimpArgs false
set_option linter.unusedVariables false
namespace Go.Proofs.Ytfhemdhgpcpfaaa.E.S1
open Go Go.Proofs E

theorem app_cl {fl : Nat} {hp : List Blk} {l : List (Int × Int)} (hl : l.length ≤ 1000) (h0 : l ≠ []) (ts : List TV) :
    builtinE cfg fl true ⟨ts, hp⟩ .append [28, 28] [.lit 2 .exact [], .lit 2 .sealed (l.map sp)] = some ⟨.v (.arr 2 hp.length 0 l.length), ts, hp ++ [Blk.cells (cel l)], .fw⟩ := by
  have e1 : elems hp 2 (.lit 2 .exact []) = some [] := rfl
  have e2 : appElems cfg hp ⟨.struct [(0, 2), (1, 2)], 2, 16, [.int .i64 0, .int .i64 0], true⟩ 28 (.lit 2 .sealed (l.map sp)) = some (l.map sp) := by
    unfold appElems
    rw [ty28]
    rfl
  simp only [builtinE, appendE, ty28, ty35, e1, e2]
  have c1 : (!decide ((([] : List AV).length + (l.map sp).length) * 16 ≤ 35184372088832) || (2 : Nat) == 0 || (16 : Nat) == 0 || !isSlc (.lit 2 .exact [])) = false := by
    simp [isSlc]; omega
  have c4 : ((l.map sp).length == 0) = false := by simpa using h0
  simp only [c1, c4, cond_false, cond_true]
  simp [isArr, flat_sp]

theorem clone_ev (k fl : Nat) (hp : List Blk) (l : List (Int × Int)) (hl : l.length ≤ 1000) (h0 : l ≠ []) :
    evCall cfg (k + 1) fl 17 [.lit 2 .sealed (l.map sp)] hp = some (.arr 2 hp.length 0 l.length, hp ++ [Blk.cells (cel l)]) :=
  evP [(3, 2, .mem (.arr 2 hp.length 0 l.length) (hp ++ [Blk.cells (cel l)]) .fw)]
    (φs := [∀ ts, builtinE cfg fl true ⟨ts, hp⟩ .append [28, 28] [.lit 2 .exact [], .lit 2 .sealed (l.map sp)] = some ⟨.v (.arr 2 hp.length 0 l.length), ts, hp ++ [Blk.cells (cel l)], .fw⟩])
    (by kernel_rfl) (app_cl hl h0)

theorem shut_pre {hp : List Blk} {n b m : Nat} {l : List (Int × Int)} (hb : hp[b]? = some (.cells (cel l))) (hn : n ≤ b) (hm : m ≤ l.length) (d : Nat) : shutV hp n (d + 3) (.arr 2 b 0 m) = some (.lit 2 .sealed ((l.take m).map sp)) := by
  have hbc : blkCells hp b = some (cel l) := by unfold blkCells; rw [getAt_eq, hb]
  have e1 : decide (b < n) = false := by simpa using hn
  have e2 : elems hp 2 (.arr 2 b 0 m) = some ((l.take m).map sp) := by
    simp only [elems, hbc, beq_self_eq_true, cond_true, List.drop_zero]
    exact chunk_pre m l hm
  rw [shutV]
  simp only [e1, cond_false, e2, shut_sps, Option.map_some]

theorem beh_ev (asc : Bool) (ts : Int) (l : List (Int × Int)) (hl : l.length ≤ 64) (h0 : l ≠ []) (k : Nat) (hk : 300 ≤ k) :
    evCall cfg (k + 1) 0 13 [.bool asc, .int .i64 ts, .lit 2 .sealed (l.map sp)] [] = some (.lit 2 .sealed ((kept asc ts l).map sp), []) := by
  have hc := clone_ev (k - 1) 0 [Blk.cells [.bool asc], Blk.cells [.int .i64 ts]] l (by omega) h0
  rw [show k - 1 + 1 = k by omega] at hc
  obtain ⟨hp', cur, k1, k2, k3, k4, k5⟩ := dlt_ev asc ts 2 0 1 (k - 1) 0 [Blk.cells [.bool asc], Blk.cells [.int .i64 ts], Blk.cells (cel l)] l hl (by omega) (by omega) (by omega) (by omega) (by simp) rfl rfl rfl
  rw [show k - 1 + 1 = k by omega] at k1
  have hs := shut_pre (n := 0) k2 (by omega) k4 99997
  rw [k3] at hs
  exact evPure (fi := (FI.of Try.f13).getD ⟨0, [], .skip⟩) [(1, 1, .res (.arr 2 2 0 l.length) [Blk.cells [.bool asc], Blk.cells [.int .i64 ts], Blk.cells (cel l)]), (1, 3, .res (.arr 2 2 0 (kept asc ts l).length) hp')]
    (hpF := hp') (rs := [.arr 2 2 0 (kept asc ts l).length])
    (φs := [evCall cfg k 0 17 [.lit 2 .sealed (l.map sp)] [Blk.cells [.bool asc], Blk.cells [.int .i64 ts]] = some (.arr 2 2 0 l.length, [Blk.cells [.bool asc], Blk.cells [.int .i64 ts], Blk.cells (cel l)]),
      evCall cfg k 0 16 [.arr 2 2 0 l.length, del 0 1] [Blk.cells [.bool asc], Blk.cells [.int .i64 ts], Blk.cells (cel l)] = some (.arr 2 2 0 (kept asc ts l).length, hp')])
    (by kernel_rfl) (by kernel_rfl) (by kernel_rfl) (by kernel_rfl) ⟨hc, k1⟩ hs

theorem beh_nil (asc : Bool) (ts : Int) (k : Nat) (hk : 300 ≤ k) :
    evCall cfg (k + 1) 0 13 [.bool asc, .int .i64 ts, .nilS] [] = some (.nilS, []) := by
  obtain ⟨k, rfl⟩ : ∃ m, k = m + 300 := ⟨k - 300, by omega⟩
  kernel_rfl
end Go.Proofs.Ytfhemdhgpcpfaaa.E.S1
