/- Steps of the seat's proofs. -/
import Derived.Test.YtkocimfdgdegfaaGreatDoorEMatch
set_option linter.unusedSimpArgs false
set_option linter.unusedVariables false
namespace Go.Proofs.YtkocimfdgdegfaaGreatDoor.E.S11
open Go Go.Proofs E E.R
abbrev fWhole : Nat := 20
abbrev fFind : Nat := 24
abbrev fRun1 : Nat := 34
abbrev fEq1 : Nat := 18
abbrev fIn1 : Nat := 22
abbrev fTest : Nat := 10
abbrev fValue : Nat := 7
abbrev fContrary : Nat := 3

theorem whole_ok {m : Int} {fl pb sb first : Nat} {hp : List Blk} {s : List UInt8} {st : List NS} {x1 x2 x3 x4 x5 x6 x7 x8 : AV} (hpb : blkCells hp pb = some (progB sb st.length x1 x2 x3 x4 x5 x6 x7 x8 first)) (hst : StOK hp sb st) (hw : WF st) (hw1 : st.length ≤ 1000000) (hfi : first < st.length) (hsz : s.length < 4611686018427387904) (hsl : sb < hp.length) : evI (cfg m) fl fWhole [.ptr pb 0, .str s] hp = some (.bool (matchF st first true s), hp) := by
  rcases E.bcases (matchF st first true s) with h1 | h1
  · exact E.evX (AV.bool true) (hp) [.cb 1 2 (E.S11.matches_ok (m := m) (fl := hp.length) (w := true) hpb hst hw hw1 hfi hsz hsl) h1] (by kernel_rfl) (E.tlP (by kernel_rfl) rfl (E.shutT (v := AV.bool true) (v' := AV.bool true) (by kernel_rfl))) (by simp [*])
  · exact E.evX (AV.bool false) (hp) [.cb 1 2 (E.S11.matches_ok (m := m) (fl := hp.length) (w := true) hpb hst hw hw1 hfi hsz hsl) h1] (by kernel_rfl) (E.tlP (by kernel_rfl) rfl (E.shutT (v := AV.bool false) (v' := AV.bool false) (by kernel_rfl))) (by simp [*])

theorem find_ok {m : Int} {fl pb sb first : Nat} {hp : List Blk} {s : List UInt8} {st : List NS} {x1 x2 x3 x4 x5 x6 x7 x8 : AV} (hpb : blkCells hp pb = some (progB sb st.length x1 x2 x3 x4 x5 x6 x7 x8 first)) (hst : StOK hp sb st) (hw : WF st) (hw1 : st.length ≤ 1000000) (hfi : first < st.length) (hsz : s.length < 4611686018427387904) (hsl : sb < hp.length) : evI (cfg m) fl fFind [.ptr pb 0, .str s] hp = some (.bool (matchF st first false s), hp) := by
  rcases E.bcases (matchF st first false s) with h1 | h1
  · exact E.evX (AV.bool true) (hp) [.cb 1 2 (E.S11.matches_ok (m := m) (fl := hp.length) (w := false) hpb hst hw hw1 hfi hsz hsl) h1] (by kernel_rfl) (E.tlP (by kernel_rfl) rfl (E.shutT (v := AV.bool true) (v' := AV.bool true) (by kernel_rfl))) (by simp [*])
  · exact E.evX (AV.bool false) (hp) [.cb 1 2 (E.S11.matches_ok (m := m) (fl := hp.length) (w := false) hpb hst hw hw1 hfi hsz hsl) h1] (by kernel_rfl) (E.tlP (by kernel_rfl) rfl (E.shutT (v := AV.bool false) (v' := AV.bool false) (by kernel_rfl))) (by simp [*])

theorem run1w_ok {m : Int} {fl pb sb first b1 b2 : Nat} {hp : List Blk} {s : List UInt8} {st : List NS} {x1 x2 x3 x4 x5 x6 x7 x8 : AV} (hb1 : blkCells hp b1 = some [.fn (.func 20) [] []]) (hb2 : blkCells hp b2 = some [.ptr pb 0]) (hpb : blkCells hp pb = some (progB sb st.length x1 x2 x3 x4 x5 x6 x7 x8 first)) (hst : StOK hp sb st) (hw : WF st) (hw1 : st.length ≤ 1000000) (hfi : first < st.length) (hsz : s.length < 4611686018427387904) (hsl : sb < hp.length) : evI (cfg m) fl fRun1 [.str s, .ptr b1 0, .ptr b2 0] hp = some (.bool (matchF st first true s), hp) := by
  rcases E.bcases (matchF st first true s) with h1 | h1
  · exact E.evX (AV.bool true) (hp) [.m 1 0 (E.load_ok (C := cfg m) (t := 65) (off := 0) (x := AV.fn (Fn.func 20) [] []) hb1 (by kernel_rfl)), .m 1 1 (E.load_ok (C := cfg m) (t := 66) (off := 0) (x := AV.ptr pb 0) hb2 (by kernel_rfl)), .cb 1 3 (E.S11.whole_ok (m := m) (fl := hp.length) hpb hst hw hw1 hfi hsz hsl) h1] (by kernel_rfl) (E.tlN (by kernel_rfl) rfl) (by simp [*])
  · exact E.evX (AV.bool false) (hp) [.m 1 0 (E.load_ok (C := cfg m) (t := 65) (off := 0) (x := AV.fn (Fn.func 20) [] []) hb1 (by kernel_rfl)), .m 1 1 (E.load_ok (C := cfg m) (t := 66) (off := 0) (x := AV.ptr pb 0) hb2 (by kernel_rfl)), .cb 1 3 (E.S11.whole_ok (m := m) (fl := hp.length) hpb hst hw hw1 hfi hsz hsl) h1] (by kernel_rfl) (E.tlN (by kernel_rfl) rfl) (by simp [*])

theorem run1f_ok {m : Int} {fl pb sb first b1 b2 : Nat} {hp : List Blk} {s : List UInt8} {st : List NS} {x1 x2 x3 x4 x5 x6 x7 x8 : AV} (hb1 : blkCells hp b1 = some [.fn (.func 24) [] []]) (hb2 : blkCells hp b2 = some [.ptr pb 0]) (hpb : blkCells hp pb = some (progB sb st.length x1 x2 x3 x4 x5 x6 x7 x8 first)) (hst : StOK hp sb st) (hw : WF st) (hw1 : st.length ≤ 1000000) (hfi : first < st.length) (hsz : s.length < 4611686018427387904) (hsl : sb < hp.length) : evI (cfg m) fl fRun1 [.str s, .ptr b1 0, .ptr b2 0] hp = some (.bool (matchF st first false s), hp) := by
  rcases E.bcases (matchF st first false s) with h1 | h1
  · exact E.evX (AV.bool true) (hp) [.m 1 0 (E.load_ok (C := cfg m) (t := 65) (off := 0) (x := AV.fn (Fn.func 24) [] []) hb1 (by kernel_rfl)), .m 1 1 (E.load_ok (C := cfg m) (t := 66) (off := 0) (x := AV.ptr pb 0) hb2 (by kernel_rfl)), .cb 1 3 (E.S11.find_ok (m := m) (fl := hp.length) hpb hst hw hw1 hfi hsz hsl) h1] (by kernel_rfl) (E.tlN (by kernel_rfl) rfl) (by simp [*])
  · exact E.evX (AV.bool false) (hp) [.m 1 0 (E.load_ok (C := cfg m) (t := 65) (off := 0) (x := AV.fn (Fn.func 24) [] []) hb1 (by kernel_rfl)), .m 1 1 (E.load_ok (C := cfg m) (t := 66) (off := 0) (x := AV.ptr pb 0) hb2 (by kernel_rfl)), .cb 1 3 (E.S11.find_ok (m := m) (fl := hp.length) hpb hst hw hw1 hfi hsz hsl) h1] (by kernel_rfl) (E.tlN (by kernel_rfl) rfl) (by simp [*])

theorem eq1_ok {m : Int} {fl b : Nat} {hp : List Blk} {s nm op val : List UInt8} (hb : blkCells hp b = some [.str nm, .str op, .str val]) : evI (cfg m) fl fEq1 [.str s, .ptr b 0] hp = some (.bool (s == val), hp) := by
  by_cases h1 : s = val
  · exact E.evX (AV.bool true) (hp) [.m 1 2 (E.load_ok (C := cfg m) (t := 9) (off := 2) (x := AV.str val) hb (by kernel_rfl)), .b 1 3 (beq_iff_eq.2 h1)] (by kernel_rfl) (E.tlN (by kernel_rfl) rfl) (by simp [*])
  · exact E.evX (AV.bool false) (hp) [.m 1 2 (E.load_ok (C := cfg m) (t := 9) (off := 2) (x := AV.str val) hb (by kernel_rfl)), .b 1 3 (beq_false_of_ne h1)] (by kernel_rfl) (E.tlN (by kernel_rfl) rfl) (by simp [*])

abbrev fContains : Nat := 23
theorem contains_ok {m : Int} {fl : Nat} {hp : List Blk} {s sub : List UInt8} (h : s.length < 4294967281) : evI (cfg m) fl fContains [.str s, .str sub] hp = some (.bool (Lib.contains s sub), hp) := by
  refine evI_of (k := 1) ?_
  have e : (cfg m).ext fContains = some extCt := by kernel_rfl
  unfold evCall
  rw [e]
  simp only [extCt, decide_eq_true h, cond_true rfl]
  rfl

theorem in1_ok {m : Int} {fl b : Nat} {hp : List Blk} {s nm op val : List UInt8} {kd n u : Int} (hb : blkCells hp b = some [.int .i64 kd, .str nm, .str op, .str val, .int .i64 n, .int .i64 u]) (hs : s.length < 4294967281) : evI (cfg m) fl fIn1 [.str s, .ptr b 0] hp = some (.bool (Lib.contains s val), hp) := by
  rcases E.bcases (Lib.contains s val) with h1 | h1
  · exact E.evX (AV.bool true) (hp) [.m 1 2 (E.load_ok (C := cfg m) (t := 9) (off := 3) (x := AV.str val) hb (by kernel_rfl)), .cb 1 3 (E.S11.contains_ok (m := m) (fl := hp.length) (hp := hp) (sub := val) hs) h1] (by kernel_rfl) (E.tlN (by kernel_rfl) rfl) (by simp [*])
  · exact E.evX (AV.bool false) (hp) [.m 1 2 (E.load_ok (C := cfg m) (t := 9) (off := 3) (x := AV.str val) hb (by kernel_rfl)), .cb 1 3 (E.S11.contains_ok (m := m) (fl := hp.length) (hp := hp) (sub := val) hs) h1] (by kernel_rfl) (E.tlN (by kernel_rfl) rfl) (by simp [*])

theorem value0 {m : Int} {fl : Nat} {hp : List Blk} {k : UInt8} (hj : Int.tmod (k.toNat : Int) 8 = 0) : evI (cfg m) fl fValue [.int .u8 k.toNat] hp = some (.str [97], hp) := by
  exact E.evX (AV.str [97]) (hp) [.w 1 2 IntKind.u8 (0) hj] (by kernel_rfl) (E.tlP (by kernel_rfl) rfl (E.shutT (v := AV.str [97]) (v' := AV.str [97]) (by kernel_rfl))) rfl

theorem value1 {m : Int} {fl : Nat} {hp : List Blk} {k : UInt8} (hj : Int.tmod (k.toNat : Int) 8 = 1) : evI (cfg m) fl fValue [.int .u8 k.toNat] hp = some (.str [98], hp) := by
  exact E.evX (AV.str [98]) (hp) [.w 1 2 IntKind.u8 (1) hj] (by kernel_rfl) (E.tlP (by kernel_rfl) rfl (E.shutT (v := AV.str [98]) (v' := AV.str [98]) (by kernel_rfl))) rfl

theorem value2 {m : Int} {fl : Nat} {hp : List Blk} {k : UInt8} (hj : Int.tmod (k.toNat : Int) 8 = 2) : evI (cfg m) fl fValue [.int .u8 k.toNat] hp = some (.str [120, 49], hp) := by
  exact E.evX (AV.str [120, 49]) (hp) [.w 1 2 IntKind.u8 (2) hj] (by kernel_rfl) (E.tlP (by kernel_rfl) rfl (E.shutT (v := AV.str [120, 49]) (v' := AV.str [120, 49]) (by kernel_rfl))) rfl

theorem value3 {m : Int} {fl : Nat} {hp : List Blk} {k : UInt8} (hj : Int.tmod (k.toNat : Int) 8 = 3) : evI (cfg m) fl fValue [.int .u8 k.toNat] hp = some (.str [], hp) := by
  exact E.evX (AV.str []) (hp) [.w 1 2 IntKind.u8 (3) hj] (by kernel_rfl) (E.tlP (by kernel_rfl) rfl (E.shutT (v := AV.str []) (v' := AV.str []) (by kernel_rfl))) rfl

theorem value4 {m : Int} {fl : Nat} {hp : List Blk} {k : UInt8} (hj : Int.tmod (k.toNat : Int) 8 = 4) : evI (cfg m) fl fValue [.int .u8 k.toNat] hp = some (.str [97, 124, 98], hp) := by
  exact E.evX (AV.str [97, 124, 98]) (hp) [.w 1 2 IntKind.u8 (4) hj] (by kernel_rfl) (E.tlP (by kernel_rfl) rfl (E.shutT (v := AV.str [97, 124, 98]) (v' := AV.str [97, 124, 98]) (by kernel_rfl))) rfl

theorem value5 {m : Int} {fl : Nat} {hp : List Blk} {k : UInt8} (hj : Int.tmod (k.toNat : Int) 8 = 5) : evI (cfg m) fl fValue [.int .u8 k.toNat] hp = some (.str [120, 46, 42], hp) := by
  exact E.evX (AV.str [120, 46, 42]) (hp) [.w 1 2 IntKind.u8 (5) hj] (by kernel_rfl) (E.tlP (by kernel_rfl) rfl (E.shutT (v := AV.str [120, 46, 42]) (v' := AV.str [120, 46, 42]) (by kernel_rfl))) rfl

theorem value6 {m : Int} {fl : Nat} {hp : List Blk} {k : UInt8} (hj : Int.tmod (k.toNat : Int) 8 = 6) : evI (cfg m) fl fValue [.int .u8 k.toNat] hp = some (.str [91, 97, 98, 93, 43], hp) := by
  exact E.evX (AV.str [91, 97, 98, 93, 43]) (hp) [.w 1 2 IntKind.u8 (6) hj] (by kernel_rfl) (E.tlP (by kernel_rfl) rfl (E.shutT (v := AV.str [91, 97, 98, 93, 43]) (v' := AV.str [91, 97, 98, 93, 43]) (by kernel_rfl))) rfl

theorem value7 {m : Int} {fl : Nat} {hp : List Blk} {k : UInt8} (hj : Int.tmod (k.toNat : Int) 8 = 7) : evI (cfg m) fl fValue [.int .u8 k.toNat] hp = some (.str [53, 109], hp) := by
  exact E.evX (AV.str [53, 109]) (hp) [.w 1 2 IntKind.u8 (7) hj] (by kernel_rfl) (E.tlP (by kernel_rfl) rfl (E.shutT (v := AV.str [53, 109]) (v' := AV.str [53, 109]) (by kernel_rfl))) rfl

end Go.Proofs.YtkocimfdgdegfaaGreatDoor.E.S11
