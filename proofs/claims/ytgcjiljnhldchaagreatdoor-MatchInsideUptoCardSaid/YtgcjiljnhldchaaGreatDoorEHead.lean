/- The head of the seat's statements, call by call. -/
import Derived.Test.YtgcjiljnhldchaaGreatDoorETabx
set_option linter.unusedSimpArgs false
set_option linter.unusedVariables false
open Go Go.Proofs Go.Proofs.YtgcjiljnhldchaaGreatDoor
namespace Go.Proofs.YtgcjiljnhldchaaGreatDoor.E.S5
def H0 : List Blk := []
def H1 : List Blk := H0 ++ [Blk.cells [.str [97], .str [33, 126], .str [120, 43]], Blk.cells [.fn (.func 19) [] []], Blk.cells [.arr 6 5 0 3, .int .i64 6, .int .u64 0, .int .u64 0, .int .u64 0, .int .u64 0, .int .i64 1, .int .i64 (-1), .lit 8 .exact [.agg [.int .i64 1, .int .u64 0, .int .u64 72057594037927936, .int .u64 0, .int .u64 0, .int .i64 0, .int .i64 0, .nilS]], .int .i64 2], Blk.dead, Blk.dead, Blk.cells [.int .i64 0, .int .u64 0, .int .u64 0, .int .u64 0, .int .u64 0, .nilS, .int .i64 4, .int .u64 0, .int .u64 0, .int .u64 0, .int .u64 0, .lit 1 (.fam 6 0) [.int .i64 0, .int .i64 2], .int .i64 1, .int .u64 0, .int .u64 72057594037927936, .int .u64 0, .int .u64 0, .lit 1 .exact [.int .i64 1]], Blk.fam 2, Blk.cells [.ptr 2 0], Blk.cells [.bool true, .fn (.func 33) [] [.ptr 1 0, .ptr 7 0], .str [97]]]
theorem c1 (m : Int) : evCall (cfg m) 2999 0 7 [.agg [.str [97], .str [33, 126], .str [120, 43]]] H0 = some (.tup [.ptr 8 0, .int .i64 0], H1) := by kernel_rfl
def H2 : List Blk := H1 ++ [Blk.cells [.str [], .str [], .str []]]
theorem c2 (m : Int) : evCall (cfg m) 2999 0 7 [.agg [.str [], .str [], .str []]] H1 = some (.tup [.nilP, .int .i64 1], H2) := by kernel_rfl
def H3 : List Blk := H2 ++ [Blk.cells [.lit 1 (.fam 14 0) [.ptr 13 0, .ptr 24 0]], Blk.cells [.str [97], .str [61], .str []], Blk.cells [.fn (.func 19) [] []], Blk.cells [.bool false, .fn (.func 18) [] [.ptr 11 0], .str [97]], Blk.fam 2, Blk.cells [.str [98], .str [61, 126], .str [49, 124, 50]], Blk.cells [.fn (.func 19) [] []], Blk.cells [.arr 6 22 0 4, .int .i64 5, .int .u64 0, .int .u64 0, .int .u64 0, .int .u64 0, .int .i64 0, .int .i64 0, .lit 8 .sealed [.agg [.int .i64 1, .int .u64 562949953421312, .int .u64 0, .int .u64 0, .int .u64 0, .int .i64 0, .int .i64 0, .nilS], .agg [.int .i64 1, .int .u64 1125899906842624, .int .u64 0, .int .u64 0, .int .u64 0, .int .i64 0, .int .i64 0, .nilS]], .int .i64 3], Blk.dead, Blk.dead, Blk.fam 2, Blk.dead, Blk.cells [.int .i64 0, .int .u64 0, .int .u64 0, .int .u64 0, .int .u64 0, .nilS, .int .i64 1, .int .u64 562949953421312, .int .u64 0, .int .u64 0, .int .u64 0, .lit 1 .exact [.int .i64 0], .int .i64 1, .int .u64 1125899906842624, .int .u64 0, .int .u64 0, .int .u64 0, .lit 1 .exact [.int .i64 0], .int .i64 4, .int .u64 0, .int .u64 0, .int .u64 0, .int .u64 0, .lit 1 (.fam 20 0) [.int .i64 1, .int .i64 2]], Blk.cells [.ptr 17 0], Blk.cells [.bool false, .fn (.func 33) [] [.ptr 16 0, .ptr 23 0], .str [98]]]
theorem c3 (m : Int) : evCall (cfg m) 2999 0 8 [.lit 3 .exact [.agg [.str [97], .str [61], .str []], .agg [.str [98], .str [61, 126], .str [49, 124, 50]]]] H2 = some (.tup [.ptr 10 0, .int .i64 0], H3) := by kernel_rfl
def H4 : List Blk := H3 ++ [Blk.cells [.int .i64 1, .str [], .str [124, 126], .str [101, 36], .int .i64 0, .int .i64 0], Blk.cells [.fn (.func 16) [] []], Blk.cells [.arr 6 30 0 3, .int .i64 4, .int .u64 0, .int .u64 0, .int .u64 0, .int .u64 0, .int .i64 0, .int .i64 0, .lit 8 .sealed [.agg [.int .i64 1, .int .u64 0, .int .u64 137438953472, .int .u64 0, .int .u64 0, .int .i64 0, .int .i64 0, .nilS], .agg [.int .i64 3, .int .u64 0, .int .u64 0, .int .u64 0, .int .u64 0, .int .i64 0, .int .i64 0, .nilS]], .int .i64 2], Blk.dead, Blk.dead, Blk.cells [.int .i64 0, .int .u64 0, .int .u64 0, .int .u64 0, .int .u64 0, .nilS, .int .i64 3, .int .u64 0, .int .u64 0, .int .u64 0, .int .u64 0, .lit 1 .exact [.int .i64 0], .int .i64 1, .int .u64 0, .int .u64 137438953472, .int .u64 0, .int .u64 0, .lit 1 .exact [.int .i64 1]], Blk.cells [.ptr 27 0], Blk.cells [.bool false, .fn (.func 33) [] [.ptr 26 0, .ptr 31 0]]]
theorem c4 (m : Int) : evCall (cfg m) 2999 0 5 [.agg [.int .i64 1, .str [], .str [124, 126], .str [101, 36], .int .i64 0, .int .i64 0]] H3 = some (.tup [.ptr 32 0, .int .i64 0], H4) := by kernel_rfl
def H5 : List Blk := H4 ++ [Blk.cells [.int .i64 2, .str [], .str [], .str [], .int .i64 0, .int .i64 0]]
theorem c5 (m : Int) : evCall (cfg m) 2999 0 5 [.agg [.int .i64 2, .str [], .str [], .str [], .int .i64 0, .int .i64 0]] H4 = some (.tup [.nilP, .int .i64 1], H5) := by kernel_rfl
theorem t0 (m : Int) : evCall (cfg m) 2999 0 9 [.ptr 8 0] H5 = some (.str [97], H5) := by kernel_rfl
theorem t1 (m : Int) : evCall (cfg m) 2999 0 6 [.agg [.bool true, .fn (.func 33) [] [.ptr 1 0, .ptr 7 0]], .str [120, 120]] H5 = some (.bool false, H5) := by kernel_rfl
theorem t2 (m : Int) : evCall (cfg m) 2999 0 6 [.agg [.bool true, .fn (.func 33) [] [.ptr 1 0, .ptr 7 0]], .str [120, 121]] H5 = some (.bool true, H5) := by kernel_rfl
theorem t3 (m : Int) : evCall (cfg m) 2999 0 10 [.ptr 10 0] H5 = some (.int .i64 2, H5) := by kernel_rfl
theorem t4 (m : Int) : evCall (cfg m) 2999 0 11 [.ptr 10 0, .lit 2 .exact [.agg [.str [98], .str [50]]]] H5 = some (.bool true, H5) := by kernel_rfl
theorem t5 (m : Int) : evCall (cfg m) 2999 0 11 [.ptr 10 0, .lit 2 .exact [.agg [.str [98], .str [51]]]] H5 = some (.bool false, H5) := by kernel_rfl
theorem t6 (m : Int) : evCall (cfg m) 2999 0 6 [.agg [.bool false, .fn (.func 33) [] [.ptr 26 0, .ptr 31 0]], .str [97, 98, 101]] H5 = some (.bool true, H5) := by kernel_rfl
theorem t7 (m : Int) : evCall (cfg m) 2999 0 6 [.agg [.bool false, .fn (.func 33) [] [.ptr 26 0, .ptr 31 0]], .str [101, 98]] H5 = some (.bool false, H5) := by kernel_rfl
theorem ex (m : Int) : evCall (cfg m) 3000 0 4 [] [] = some (.bool true, []) :=
  evP (k := 2999) [(1, 1, .res (.tup [.ptr 8 0, .int .i64 0]) H1), (2, 1, .res (.tup [.nilP, .int .i64 1]) H2), (3, 3, .res (.tup [.ptr 10 0, .int .i64 0]) H3), (4, 1, .res (.tup [.ptr 32 0, .int .i64 0]) H4), (5, 1, .res (.tup [.nilP, .int .i64 1]) H5), (8, 20, .res (.str [97]) H5), (8, 28, .res (.bool false) H5), (8, 36, .res (.bool true) H5), (8, 40, .res (.int .i64 2) H5), (8, 47, .res (.bool true) H5), (8, 53, .res (.bool false) H5), (8, 61, .res (.bool true) H5), (8, 68, .res (.bool false) H5)]
    (φs := [evCall (cfg m) 2999 0 7 [.agg [.str [97], .str [33, 126], .str [120, 43]]] H0 = some (.tup [.ptr 8 0, .int .i64 0], H1),
      evCall (cfg m) 2999 0 7 [.agg [.str [], .str [], .str []]] H1 = some (.tup [.nilP, .int .i64 1], H2),
      evCall (cfg m) 2999 0 8 [.lit 3 .exact [.agg [.str [97], .str [61], .str []], .agg [.str [98], .str [61, 126], .str [49, 124, 50]]]] H2 = some (.tup [.ptr 10 0, .int .i64 0], H3),
      evCall (cfg m) 2999 0 5 [.agg [.int .i64 1, .str [], .str [124, 126], .str [101, 36], .int .i64 0, .int .i64 0]] H3 = some (.tup [.ptr 32 0, .int .i64 0], H4),
      evCall (cfg m) 2999 0 5 [.agg [.int .i64 2, .str [], .str [], .str [], .int .i64 0, .int .i64 0]] H4 = some (.tup [.nilP, .int .i64 1], H5),
      evCall (cfg m) 2999 0 9 [.ptr 8 0] H5 = some (.str [97], H5),
      evCall (cfg m) 2999 0 6 [.agg [.bool true, .fn (.func 33) [] [.ptr 1 0, .ptr 7 0]], .str [120, 120]] H5 = some (.bool false, H5),
      evCall (cfg m) 2999 0 6 [.agg [.bool true, .fn (.func 33) [] [.ptr 1 0, .ptr 7 0]], .str [120, 121]] H5 = some (.bool true, H5),
      evCall (cfg m) 2999 0 10 [.ptr 10 0] H5 = some (.int .i64 2, H5),
      evCall (cfg m) 2999 0 11 [.ptr 10 0, .lit 2 .exact [.agg [.str [98], .str [50]]]] H5 = some (.bool true, H5),
      evCall (cfg m) 2999 0 11 [.ptr 10 0, .lit 2 .exact [.agg [.str [98], .str [51]]]] H5 = some (.bool false, H5),
      evCall (cfg m) 2999 0 6 [.agg [.bool false, .fn (.func 33) [] [.ptr 26 0, .ptr 31 0]], .str [97, 98, 101]] H5 = some (.bool true, H5),
      evCall (cfg m) 2999 0 6 [.agg [.bool false, .fn (.func 33) [] [.ptr 26 0, .ptr 31 0]], .str [101, 98]] H5 = some (.bool false, H5)])
    (by kernel_rfl) ⟨c1 m, c2 m, c3 m, c4 m, c5 m, t0 m, t1 m, t2 m, t3 m, t4 m, t5 m, t6 m, t7 m⟩
end Go.Proofs.YtgcjiljnhldchaaGreatDoor.E.S5
