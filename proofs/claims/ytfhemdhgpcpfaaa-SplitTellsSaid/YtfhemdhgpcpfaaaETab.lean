/- The seat's tables for the evaluator, checked against the program, and the head of its statements at no argument. -/
import Derived.Test.YtfhemdhgpcpfaaaEf
import Derived.Test.YtfhemdhgpcpfaaaRows
import Derived.KernelRfl
set_option linter.unusedSimpArgs false
set_option linter.unusedVariables false
open Go Go.Proofs Go.Proofs.Ytfhemdhgpcpfaaa
namespace Go.Proofs.Ytfhemdhgpcpfaaa.E.S1
noncomputable def tys : List (List (Option TI)) := [
  [none, some ⟨.func, 1, 8, [.nilF], true⟩, some ⟨.int .i64, 1, 8, [.int .i64 (0)], true⟩, some ⟨.int .i64, 1, 8, [.int .i64 (0)], true⟩, some ⟨.bool, 1, 1, [.bool false], true⟩, some ⟨.int .u8, 1, 1, [.int .u8 (0)], true⟩, some ⟨.int .u8, 1, 1, [.int .u8 (0)], true⟩, some ⟨.struct [(0, 2), (1, 3), (2, 4), (3, 6)], 4, 24, [.int .i64 (0), .int .i64 (0), .bool false, .int .u8 (0)], true⟩, some ⟨.struct [(0, 2), (1, 3), (2, 4), (3, 6)], 4, 24, [.int .i64 (0), .int .i64 (0), .bool false, .int .u8 (0)], true⟩, some ⟨.string, 1, 16, [.str []], true⟩, some ⟨.string, 1, 16, [.str []], true⟩, some ⟨.string, 1, 16, [.str []], true⟩, some ⟨.int .u64, 1, 8, [.int .u64 (0)], true⟩, some ⟨.struct [(0, 9), (1, 12)], 2, 24, [.str [], .int .u64 (0)], false⟩, some ⟨.struct [(0, 9), (1, 12)], 2, 24, [.str [], .int .u64 (0)], false⟩, some ⟨.pointer 55, 1, 8, [.nilP], true⟩],
  [some ⟨.pointer 58, 1, 8, [.nilP], true⟩, some ⟨.pointer 67, 1, 8, [.nilP], true⟩, some ⟨.struct [(0, 17)], 1, 8, [.nilP], false⟩, some ⟨.struct [(0, 17)], 1, 8, [.nilP], false⟩, some ⟨.iface, 1, 16, [.nilI], true⟩, some ⟨.int .i32, 1, 4, [.int .i32 (0)], true⟩, some ⟨.func, 1, 8, [.nilF], true⟩, some ⟨.int .i64, 1, 8, [.int .i64 (0)], true⟩, none, some ⟨.func, 1, 8, [.nilF], true⟩, none, some ⟨.func, 1, 8, [.nilF], true⟩, some ⟨.slice 35, 1, 24, [.nilS], true⟩, none, some ⟨.func, 1, 8, [.nilF], true⟩, some ⟨.slice 36, 1, 24, [.nilS], true⟩],
  [none, some ⟨.func, 1, 8, [.nilF], true⟩, some ⟨.struct [(0, 2), (1, 2)], 2, 16, [.int .i64 (0), .int .i64 (0)], true⟩, some ⟨.struct [(0, 2), (1, 2)], 2, 16, [.int .i64 (0), .int .i64 (0)], true⟩, some ⟨.struct [(0, 2), (1, 2)], 2, 16, [.int .i64 (0), .int .i64 (0)], true⟩, some ⟨.func, 1, 8, [.nilF], true⟩, some ⟨.func, 1, 8, [.nilF], true⟩, some ⟨.func, 1, 8, [.nilF], true⟩, some ⟨.int .u32, 1, 4, [.int .u32 (0)], true⟩, some ⟨.int .u64, 1, 8, [.int .u64 (0)], true⟩, some ⟨.func, 1, 8, [.nilF], true⟩, some ⟨.int .u16, 1, 2, [.int .u16 (0)], true⟩, some ⟨.func, 1, 8, [.nilF], true⟩, some ⟨.func, 1, 8, [.nilF], true⟩, some ⟨.func, 1, 8, [.nilF], true⟩, some ⟨.int .u64, 1, 8, [.int .u64 (0)], true⟩],
  [some ⟨.func, 1, 8, [.nilF], true⟩, some ⟨.func, 1, 8, [.nilF], true⟩, some ⟨.func, 1, 8, [.nilF], true⟩, some ⟨.func, 1, 8, [.nilF], true⟩, some ⟨.func, 1, 8, [.nilF], true⟩, some ⟨.func, 1, 8, [.nilF], true⟩, some ⟨.struct [(0, 17), (1, 17), (2, 17), (3, 9)], 4, 40, [.nilP, .nilP, .nilP, .str []], false⟩, some ⟨.struct [(0, 17), (1, 17), (2, 17), (3, 9)], 4, 40, [.nilP, .nilP, .nilP, .str []], false⟩, some ⟨.array 0 16, 0, 0, [], true⟩, some ⟨.struct [(0, 56)], 0, 0, [], false⟩, some ⟨.struct [(0, 56)], 0, 0, [], false⟩, some ⟨.func, 1, 8, [.nilF], true⟩, some ⟨.int .u8, 1, 1, [.int .u8 (0)], true⟩, some ⟨.int .u8, 1, 1, [.int .u8 (0)], true⟩, some ⟨.func, 1, 8, [.nilF], true⟩, some ⟨.pointer 5, 1, 8, [.nilP], true⟩],
  [some ⟨.int .i32, 1, 4, [.int .i32 (0)], true⟩, some ⟨.int .i32, 1, 4, [.int .i32 (0)], true⟩, some ⟨.struct [(0, 12), (1, 12), (2, 40), (3, 60), (4, 5), (5, 5), (6, 61), (7, 62), (8, 63), (9, 64), (10, 65)], 11, 48, [.int .u64 (0), .int .u64 (0), .int .u32 (0), .int .u8 (0), .int .u8 (0), .int .u8 (0), .int .u8 (0), .nilF, .nilP, .int .i32 (0), .int .i32 (0)], false⟩, some ⟨.struct [(0, 12), (1, 12), (2, 40), (3, 60), (4, 5), (5, 5), (6, 61), (7, 62), (8, 63), (9, 64), (10, 65)], 11, 48, [.int .u64 (0), .int .u64 (0), .int .u32 (0), .int .u8 (0), .int .u8 (0), .int .u8 (0), .int .u8 (0), .nilF, .nilP, .int .i32 (0), .int .i32 (0)], false⟩, some ⟨.other, 1, 8, [.nilP], true⟩]]
noncomputable def fns : List (List (Option FI)) := [
  [none, none, FI.of Try.f2, FI.of Try.f3, FI.of Try.f4, FI.of Try.f5, FI.of Try.f6, FI.of Try.f7, FI.of Try.f8, FI.of Try.f9, FI.of Try.f10, FI.of Try.f11, FI.of Try.f12, FI.of Try.f13, FI.of Try.f14, FI.of Try.f15],
  [FI.of Try.f16, FI.of Try.f17, FI.of Try.f18, FI.of Try.f19, none, none, none, none, none, none, none, none, none, none, none, none],
  [none, none, none, none]]
noncomputable def locs : List (List Nat) := [
  [0, 0, 0, 0, 0, 0, 0, 0, 0, 0, 0, 0, 32768, 0, 0, 0],
  [128, 0, 8, 0, 0, 0, 0, 0, 0, 0, 0, 0, 0, 0, 0, 0],
  [0, 0, 0, 0]]
noncomputable def loops : List (List (List (Nat × Nat))) := [
  [[], [], [], [(33, 58728448), (24, 5513256)], [(15, 1619456)], [(21, 3246080), (13, 886800)], [], [], [], [], [], [(6, 50335759)], [(6, 13327)], [], [(3, 391)], [(1, 13)]],
  [[(5, 99)], [], [], [(2, 387)], [], [], [], [], [], [], [], [], [], [], [], []],
  [[], [], [], []]]
noncomputable def afters : List (List (List (Nat × Nat))) := [
  [[], [], [], [(33, 12288), (24, 1323048)], [(15, 529152)], [(21, 1084416), (13, 362512)], [], [], [], [], [], [(6, 4104)], [(6, 4096)], [], [(3, 128)], [(1, 0)]],
  [[(5, 33)], [], [], [(2, 16)], [], [], [], [], [], [], [], [], [], [], [], []],
  [[], [], [], []]]
noncomputable def prs : List (List (List (Nat × List (Nat × Nat)))) := [
  [[], [], [], [], [], [], [], [], [], [], [], [], [], [], [], []],
  [[], [], [], [], [], [], [], [], [], [], [], [], [], [], [], []],
  [[], [], [], []]]
noncomputable def kinds : List (List Kind) := [
  [.pure, .pure, .pure, .pure, .pure, .pure, .pure, .pure, .pure, .pure, .pure, .pure, .pure, .pure, .pure, .keep],
  [.keep, .keep, .pure, .pure, .pure, .pure, .pure, .pure, .pure, .pure, .pure, .pure, .pure, .pure, .pure, .pure],
  [.pure, .pure, .pure, .pure]]
noncomputable def arrs : List (List Bool) := [
  [false, false, false, false, false, false, false, false, false, false, false, true, false, false, false, false],
  [true, true, false, false, false, false, false, false, false, false, false, false, false, false, false, false],
  [false, false, false, false]]
noncomputable def cfg : Cfg := mkCfg 69 36 tys fns locs loops afters prs kinds arrs (fun _ => none) (fun _ => none)
-- 0 main.main #[] #[] NO BODY
-- 1 gosem.cut #[] #[] NO BODY
-- 2 gosem.cut.init #[] #[]
-- 3 archivist/archivistlaw17.SplitTells #[2, 2, 2, 4, 5, 2] #[4]
-- 4 archivist/archivistlaw17.SplitWhole #[2, 40, 5, 40] #[4]
-- 5 archivist/archivistlaw17.SplitBehind #[21, 5, 5, 43, 4] #[4]
-- 6 archivist/archivistlaw17.SplitWrong #[2, 2, 2] #[4]
-- 7 archivist/archivistlaw17.SplitMany #[21, 43, 43, 43] #[4]
-- 8 archivist/archivistlaw17.examples #[] #[4]
-- 9 archivist/split.Many #[2, 2, 2] #[3, 23]
-- 10 archivist/archivistref17.Many #[2, 2, 2] #[3, 3]
-- 11 archivist/split.All #[2, 2, 2, 4] #[28, 23]
-- 12 archivist/archivistref17.All #[2, 2, 2, 4] #[31, 3]
-- 13 archivist/split.Behind #[4, 2, 28] #[28]
-- 14 archivist/archivistref17.Behind #[4, 2, 31] #[31]
-- 15 slices.Reverse[[]archivist/split.Span,archivist/split.Span] #[28] #[]
-- 16 slices.DeleteFunc[[]archivist/split.Span,archivist/split.Span] #[28, 51] #[28]
-- 17 slices.Clone[[]archivist/split.Span,archivist/split.Span] #[28] #[28]
-- 18 archivist/split.Behind$1 #[35] #[4]
-- 19 slices.IndexFunc[[]archivist/split.Span,archivist/split.Span] #[28, 51] #[3]
-- 20 (runtime.boundsError).Error #[8] #[9] NO BODY
-- 21 (runtime.boundsError).RuntimeError #[8] #[] NO BODY
-- 22 (runtime.errorString).Error #[10] #[9] NO BODY
-- 23 (runtime.errorString).RuntimeError #[10] #[] NO BODY
-- 24 (runtime.plainError).Error #[11] #[9] NO BODY
-- 25 (runtime.plainError).RuntimeError #[11] #[] NO BODY
-- 26 (runtime.errorAddressString).Error #[14] #[9] NO BODY
-- 27 (runtime.errorAddressString).RuntimeError #[14] #[] NO BODY
-- 28 (*runtime.TypeAssertionError).Error #[15] #[9] NO BODY
-- 29 (*runtime.TypeAssertionError).RuntimeError #[15] #[] NO BODY
-- 30 (*runtime.PanicNilError).Error #[16] #[9] NO BODY
-- 31 (*runtime.PanicNilError).RuntimeError #[16] #[] NO BODY
-- 32 (*internal/abi.Type).Align #[17] #[3] NO BODY
-- 33 (internal/runtime/maps.unhashableTypeError).Error #[19] #[9] NO BODY
-- 34 (internal/runtime/maps.unhashableTypeError).RuntimeError #[19] #[] NO BODY
-- 35 (internal/abi.Kind).String #[61] #[9] NO BODY


theorem tysOK : (List.range 69).map (tyAt tys) = (List.range 69).map (tiOf Try.prog) := by kernel_rfl
theorem fnsOK : (List.range 36).map (fnAt fns) = (List.range 36).map fun f => match Try.prog.funcs[f]? with | some fn => FI.of fn | none => none := by kernel_rfl
theorem codesOK : (List.range 36).all (fun f => match Try.prog.funcs[f]? with
      | some fn => !(fn.name == "runtime.NumGoroutine") && (match FI.of fn with | some fi => codeOK cfg f fi.body | none => true)
      | none => true) = true := by kernel_rfl
theorem ordOK : Try.prog.follows .mixedOrders = true := by kernel_rfl
theorem tab : TabOK Try.prog cfg := mkTab tysOK fnsOK codesOK ordOK fun f e h => by cases h
theorem ex : evCall cfg 1000 0 8 [] [] = some (.bool true, []) := by kernel_rfl
end Go.Proofs.Ytfhemdhgpcpfaaa.E.S1
