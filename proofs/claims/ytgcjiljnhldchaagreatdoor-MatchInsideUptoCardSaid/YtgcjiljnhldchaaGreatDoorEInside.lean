/- archivistlaw11.MatchInside answers true, whatever the number in the package's variable, where the texts are not longer than the bound. -/
import Derived.Test.YtgcjiljnhldchaaGreatDoorEHead
import Derived.Lib.IndexLaws
set_option linter.unusedSimpArgs false
set_option linter.unusedVariables false
namespace Go.Proofs.YtgcjiljnhldchaaGreatDoor.E.S5
open Go Go.Proofs E

theorem has_inside (a b c : List UInt8) : Lib.contains (a ++ b ++ c) b = true := by
  unfold Lib.contains
  rcases Lib.index_spec (a ++ b ++ c) b with ⟨_, h⟩ | ⟨i, h, _⟩
  · exfalso
    have := h a.length (by simp)
    unfold Lib.occAt at this
    rw [List.append_assoc, List.drop_left] at this
    have h2 : b.isPrefixOf (b ++ c) = true := List.isPrefixOf_iff_prefix.2 (List.prefix_append b c)
    rw [h2] at this
    cases this
  · rw [h]; simp
theorem has_nothing (a : List UInt8) : Lib.contains a [] = true := by
  unfold Lib.contains; rw [Lib.index_empty]; rfl
theorem has_no_room {b c : List UInt8} (h : c.length < b.length) : Lib.contains c b = false := by
  unfold Lib.contains
  rw [decide_eq_false_iff_not]
  intro h2
  have := Lib.index_room c b h2
  omega

theorem ct (m : Int) (s v : List UInt8) (k fl : Nat) (hp : List Blk) (hs : s.length < 4294967281) : evCall (cfg m) (k + 1) fl 14 [.str s, .str v] hp = some (.bool (Lib.contains s v), hp) := by
  have he : (cfg m).ext 14 = some extCt := by kernel_rfl
  have hx : extCt [.str s, .str v] = some (.bool (Lib.contains s v)) := by
    show (bif decide (s.length < 4294967281) then some (AV.bool (Lib.contains s v)) else none) = _
    rw [decide_eq_true hs, cond_true rfl]
  unfold evCall
  simp only [he, hx, Option.map_some]

abbrev stage (v : List UInt8) : List AV := [.int .i64 1, .str [], .str [124, 61], .str v, .int .i64 0, .int .i64 0]
abbrev ops : AV := .lit 1 .exact [.str [124, 61], .str [33, 61], .str [124, 126], .str [33, 126]]
theorem r27 (m : Int) (v : List UInt8) (hv : v.length ≤ 256) (fl : Nat) (hp : List Blk) : evCall (cfg m) 2998 fl 27 [.agg [.str [124, 61], .str v], ops] hp = some (.bool true, hp) :=
  evP (k := 2997) [(2, 6, .val (.bool false))] (φs := [some (AV.bool (decide ((v.length : Int) > 256))) = some (.bool false)]) (by kernel_rfl) (by rw [decide_eq_false (by omega)]; rfl)
theorem r12 (m : Int) (v : List UInt8) (hv : v.length ≤ 256) (fl : Nat) (hp : List Blk) : evCall (cfg m) 2999 fl 12 [.agg (stage v)] hp = some (.bool true, hp) :=
  evP (k := 2998) [(8, 8, .res (.bool true) hp)] (φs := [evCall (cfg m) 2998 hp.length 27 [.agg [.str [124, 61], .str v], ops] hp = some (.bool true, hp)]) (by kernel_rfl) (r27 m v hv _ hp)

abbrev L1 (v : List UInt8) : List Blk := [Blk.cells (stage v), Blk.cells [.fn (.func 16) [] []], Blk.cells [.bool false, .fn (.func 13) [] [.ptr 0 0]]]
abbrev L2 (v : List UInt8) : List Blk := [Blk.cells (stage v), Blk.cells [.fn (.func 16) [] []], Blk.cells [.bool false, .fn (.func 13) [] [.ptr 0 0]], Blk.cells (stage []), Blk.cells [.fn (.func 16) [] []], Blk.cells [.bool false, .fn (.func 13) [] [.ptr 3 0]]]
theorem line1 (m : Int) (v : List UInt8) (hv : v.length ≤ 256) : evCall (cfg m) 3000 0 5 [.agg (stage v)] [] = some (.tup [.ptr 2 0, .int .i64 0], L1 v) :=
  evP (k := 2999) [(1, 5, .res (.bool true) [Blk.cells (stage v)])] (φs := [evCall (cfg m) 2999 0 12 [.agg (stage v)] [Blk.cells (stage v)] = some (.bool true, [Blk.cells (stage v)])]) (by kernel_rfl) (r12 m v hv _ _)
theorem line2 (m : Int) (v : List UInt8) : evCall (cfg m) 3000 0 5 [.agg (stage [])] (L1 v) = some (.tup [.ptr 5 0, .int .i64 0], L2 v) := by kernel_rfl

/-! the tests -/
abbrev tl : AV := .agg [.bool false, .fn (.func 13) [] [.ptr 0 0]]
abbrev tn : AV := .agg [.bool false, .fn (.func 13) [] [.ptr 3 0]]

theorem tl_true (m : Int) (v s : List UInt8) (hs : s.length < 4294967281) (hx : Lib.contains s v = true) : evCall (cfg m) 3000 0 6 [tl, .str s] (L2 v) = some (.bool true, L2 v) := by
  have h1 : evCall (cfg m) 2998 6 14 [.str s, .str v] (L2 v) = some (.bool true, L2 v) := by rw [ct m s v 2997 6 (L2 v) hs, hx]
  have h2 : evCall (cfg m) 2999 6 13 [.str s, .ptr 0 0] (L2 v) = some (.bool true, L2 v) :=
    evP (k := 2998) [(1, 3, .res (.bool true) (L2 v))] (φs := [evCall (cfg m) 2998 6 14 [.str s, .str v] (L2 v) = some (.bool true, L2 v)]) (by kernel_rfl) h1
  exact evP (k := 2999) [(1, 3, .res (.bool true) (L2 v))] (φs := [evCall (cfg m) 2999 6 13 [.str s, .ptr 0 0] (L2 v) = some (.bool true, L2 v)]) (by kernel_rfl) h2

theorem tl_false (m : Int) (v s : List UInt8) (hs : s.length < 4294967281) (hx : Lib.contains s v = false) : evCall (cfg m) 3000 0 6 [tl, .str s] (L2 v) = some (.bool false, L2 v) := by
  have h1 : evCall (cfg m) 2998 6 14 [.str s, .str v] (L2 v) = some (.bool false, L2 v) := by rw [ct m s v 2997 6 (L2 v) hs, hx]
  have h2 : evCall (cfg m) 2999 6 13 [.str s, .ptr 0 0] (L2 v) = some (.bool false, L2 v) :=
    evP (k := 2998) [(1, 3, .res (.bool false) (L2 v))] (φs := [evCall (cfg m) 2998 6 14 [.str s, .str v] (L2 v) = some (.bool false, L2 v)]) (by kernel_rfl) h1
  exact evP (k := 2999) [(1, 3, .res (.bool false) (L2 v))] (φs := [evCall (cfg m) 2999 6 13 [.str s, .ptr 0 0] (L2 v) = some (.bool false, L2 v)]) (by kernel_rfl) h2

theorem tn_true (m : Int) (v s : List UInt8) (hs : s.length < 4294967281) (hx : Lib.contains s [] = true) : evCall (cfg m) 3000 0 6 [tn, .str s] (L2 v) = some (.bool true, L2 v) := by
  have h1 : evCall (cfg m) 2998 6 14 [.str s, .str []] (L2 v) = some (.bool true, L2 v) := by rw [ct m s [] 2997 6 (L2 v) hs, hx]
  have h2 : evCall (cfg m) 2999 6 13 [.str s, .ptr 3 0] (L2 v) = some (.bool true, L2 v) :=
    evP (k := 2998) [(1, 3, .res (.bool true) (L2 v))] (φs := [evCall (cfg m) 2998 6 14 [.str s, .str []] (L2 v) = some (.bool true, L2 v)]) (by kernel_rfl) h1
  exact evP (k := 2999) [(1, 3, .res (.bool true) (L2 v))] (φs := [evCall (cfg m) 2999 6 13 [.str s, .ptr 3 0] (L2 v) = some (.bool true, L2 v)]) (by kernel_rfl) h2

theorem tn_false (m : Int) (v s : List UInt8) (hs : s.length < 4294967281) (hx : Lib.contains s [] = false) : evCall (cfg m) 3000 0 6 [tn, .str s] (L2 v) = some (.bool false, L2 v) := by
  have h1 : evCall (cfg m) 2998 6 14 [.str s, .str []] (L2 v) = some (.bool false, L2 v) := by rw [ct m s [] 2997 6 (L2 v) hs, hx]
  have h2 : evCall (cfg m) 2999 6 13 [.str s, .ptr 3 0] (L2 v) = some (.bool false, L2 v) :=
    evP (k := 2998) [(1, 3, .res (.bool false) (L2 v))] (φs := [evCall (cfg m) 2998 6 14 [.str s, .str []] (L2 v) = some (.bool false, L2 v)]) (by kernel_rfl) h1
  exact evP (k := 2999) [(1, 3, .res (.bool false) (L2 v))] (φs := [evCall (cfg m) 2999 6 13 [.str s, .ptr 3 0] (L2 v) = some (.bool false, L2 v)]) (by kernel_rfl) h2

theorem way_true_true (m : Int) (a b c v : List UInt8) (hn : a.length + v.length + c.length < 4294967281) (hv : v.length ≤ 256)
    (hsl : ∀ ts, sliceE (cfg m) ⟨ts, []⟩ 9 (.v (.str b)) none (some (.int .i64 (bif decide ((200 : Int) < (b.length : Int)) then 200 else (b.length : Int)))) none = some (.str v))
    (h1 : strOp .add a v = some (.str (a ++ v))) (h2 : strOp .add (a ++ v) c = some (.str (a ++ v ++ c))) (hx : Lib.contains a v = true) (hy : decide ((v.length : Int) ≤ (c.length : Int)) = true) : evCall (cfg m) 3001 0 3 [.str a, .str b, .str c] [] = some (.bool true, []) :=
  evP (k := 3000) [(1, 0, .res (.bool true) []), (4, 4, .mem (.str v) [] .z), (5, 2, .res (.tup [.ptr 2 0, .int .i64 0]) (L1 v)), (6, 1, .res (.tup [.ptr 5 0, .int .i64 0]) (L2 v)), (9, 16, .val (.str (a ++ v))), (9, 18, .val (.str (a ++ v ++ c))), (9, 19, .res (.bool true) (L2 v)), (9, 27, .res (.bool true) (L2 v)), (9, 35, .res (.bool true) (L2 v)), (9, 47, .val (.bool true))]
    (φs := [evCall (cfg m) 3000 0 4 [] [] = some (.bool true, []),
      (∀ ts, sliceE (cfg m) ⟨ts, []⟩ 9 (.v (.str b)) none (some (.int .i64 (bif decide ((200 : Int) < (b.length : Int)) then 200 else (b.length : Int)))) none = some (.str v)) ∧ ([] : List Blk) = [] ∧ (Fp.z : Fp) = .z,
      evCall (cfg m) 3000 0 5 [.agg (stage v)] [] = some (.tup [.ptr 2 0, .int .i64 0], L1 v),
      evCall (cfg m) 3000 0 5 [.agg (stage [])] (L1 v) = some (.tup [.ptr 5 0, .int .i64 0], L2 v),
      strOp .add a v = some (.str (a ++ v)),
      strOp .add (a ++ v) c = some (.str (a ++ v ++ c)),
      evCall (cfg m) 3000 0 6 [tl, .str (a ++ v ++ c)] (L2 v) = some (.bool true, L2 v),
      evCall (cfg m) 3000 0 6 [tn, .str a] (L2 v) = some (.bool true, L2 v),
      evCall (cfg m) 3000 0 6 [tl, .str a] (L2 v) = some (.bool true, L2 v),
      some (AV.bool (decide ((v.length : Int) ≤ (c.length : Int)))) = some (.bool true)])
    (by kernel_rfl) ⟨(ex m), (⟨hsl, rfl, rfl⟩), (line1 m v hv), (line2 m v), (h1), (h2), (tl_true m v _ (by simp; omega) (has_inside a v c)), (tn_true m v a (by omega) (has_nothing a)), (tl_true m v a (by omega) hx), (by rw [hy] <;> rfl)⟩

theorem way_true_false (m : Int) (a b c v : List UInt8) (hn : a.length + v.length + c.length < 4294967281) (hv : v.length ≤ 256)
    (hsl : ∀ ts, sliceE (cfg m) ⟨ts, []⟩ 9 (.v (.str b)) none (some (.int .i64 (bif decide ((200 : Int) < (b.length : Int)) then 200 else (b.length : Int)))) none = some (.str v))
    (h1 : strOp .add a v = some (.str (a ++ v))) (h2 : strOp .add (a ++ v) c = some (.str (a ++ v ++ c))) (hx : Lib.contains a v = true) (hy : decide ((v.length : Int) ≤ (c.length : Int)) = false) (hz : Lib.contains c v = false) : evCall (cfg m) 3001 0 3 [.str a, .str b, .str c] [] = some (.bool true, []) :=
  evP (k := 3000) [(1, 0, .res (.bool true) []), (4, 4, .mem (.str v) [] .z), (5, 2, .res (.tup [.ptr 2 0, .int .i64 0]) (L1 v)), (6, 1, .res (.tup [.ptr 5 0, .int .i64 0]) (L2 v)), (9, 16, .val (.str (a ++ v))), (9, 18, .val (.str (a ++ v ++ c))), (9, 19, .res (.bool true) (L2 v)), (9, 27, .res (.bool true) (L2 v)), (9, 35, .res (.bool true) (L2 v)), (9, 47, .val (.bool false)), (9, 54, .res (.bool false) (L2 v))]
    (φs := [evCall (cfg m) 3000 0 4 [] [] = some (.bool true, []),
      (∀ ts, sliceE (cfg m) ⟨ts, []⟩ 9 (.v (.str b)) none (some (.int .i64 (bif decide ((200 : Int) < (b.length : Int)) then 200 else (b.length : Int)))) none = some (.str v)) ∧ ([] : List Blk) = [] ∧ (Fp.z : Fp) = .z,
      evCall (cfg m) 3000 0 5 [.agg (stage v)] [] = some (.tup [.ptr 2 0, .int .i64 0], L1 v),
      evCall (cfg m) 3000 0 5 [.agg (stage [])] (L1 v) = some (.tup [.ptr 5 0, .int .i64 0], L2 v),
      strOp .add a v = some (.str (a ++ v)),
      strOp .add (a ++ v) c = some (.str (a ++ v ++ c)),
      evCall (cfg m) 3000 0 6 [tl, .str (a ++ v ++ c)] (L2 v) = some (.bool true, L2 v),
      evCall (cfg m) 3000 0 6 [tn, .str a] (L2 v) = some (.bool true, L2 v),
      evCall (cfg m) 3000 0 6 [tl, .str a] (L2 v) = some (.bool true, L2 v),
      some (AV.bool (decide ((v.length : Int) ≤ (c.length : Int)))) = some (.bool false),
      evCall (cfg m) 3000 0 6 [tl, .str c] (L2 v) = some (.bool false, L2 v)])
    (by kernel_rfl) ⟨(ex m), (⟨hsl, rfl, rfl⟩), (line1 m v hv), (line2 m v), (h1), (h2), (tl_true m v _ (by simp; omega) (has_inside a v c)), (tn_true m v a (by omega) (has_nothing a)), (tl_true m v a (by omega) hx), (by rw [hy] <;> rfl), (tl_false m v c (by omega) hz)⟩

theorem way_false_true (m : Int) (a b c v : List UInt8) (hn : a.length + v.length + c.length < 4294967281) (hv : v.length ≤ 256)
    (hsl : ∀ ts, sliceE (cfg m) ⟨ts, []⟩ 9 (.v (.str b)) none (some (.int .i64 (bif decide ((200 : Int) < (b.length : Int)) then 200 else (b.length : Int)))) none = some (.str v))
    (h1 : strOp .add a v = some (.str (a ++ v))) (h2 : strOp .add (a ++ v) c = some (.str (a ++ v ++ c))) (hx : Lib.contains a v = false) (hp : decide ((v.length : Int) > 0) = true) (hy : decide ((v.length : Int) ≤ (c.length : Int)) = true) : evCall (cfg m) 3001 0 3 [.str a, .str b, .str c] [] = some (.bool true, []) :=
  evP (k := 3000) [(1, 0, .res (.bool true) []), (4, 4, .mem (.str v) [] .z), (5, 2, .res (.tup [.ptr 2 0, .int .i64 0]) (L1 v)), (6, 1, .res (.tup [.ptr 5 0, .int .i64 0]) (L2 v)), (9, 16, .val (.str (a ++ v))), (9, 18, .val (.str (a ++ v ++ c))), (9, 19, .res (.bool true) (L2 v)), (9, 27, .res (.bool true) (L2 v)), (9, 35, .res (.bool false) (L2 v)), (9, 39, .val (.bool true)), (9, 47, .val (.bool true))]
    (φs := [evCall (cfg m) 3000 0 4 [] [] = some (.bool true, []),
      (∀ ts, sliceE (cfg m) ⟨ts, []⟩ 9 (.v (.str b)) none (some (.int .i64 (bif decide ((200 : Int) < (b.length : Int)) then 200 else (b.length : Int)))) none = some (.str v)) ∧ ([] : List Blk) = [] ∧ (Fp.z : Fp) = .z,
      evCall (cfg m) 3000 0 5 [.agg (stage v)] [] = some (.tup [.ptr 2 0, .int .i64 0], L1 v),
      evCall (cfg m) 3000 0 5 [.agg (stage [])] (L1 v) = some (.tup [.ptr 5 0, .int .i64 0], L2 v),
      strOp .add a v = some (.str (a ++ v)),
      strOp .add (a ++ v) c = some (.str (a ++ v ++ c)),
      evCall (cfg m) 3000 0 6 [tl, .str (a ++ v ++ c)] (L2 v) = some (.bool true, L2 v),
      evCall (cfg m) 3000 0 6 [tn, .str a] (L2 v) = some (.bool true, L2 v),
      evCall (cfg m) 3000 0 6 [tl, .str a] (L2 v) = some (.bool false, L2 v),
      some (AV.bool (decide ((v.length : Int) > 0))) = some (.bool true),
      some (AV.bool (decide ((v.length : Int) ≤ (c.length : Int)))) = some (.bool true)])
    (by kernel_rfl) ⟨(ex m), (⟨hsl, rfl, rfl⟩), (line1 m v hv), (line2 m v), (h1), (h2), (tl_true m v _ (by simp; omega) (has_inside a v c)), (tn_true m v a (by omega) (has_nothing a)), (tl_false m v a (by omega) hx), (by rw [hp] <;> rfl), (by rw [hy] <;> rfl)⟩

theorem way_false_false (m : Int) (a b c v : List UInt8) (hn : a.length + v.length + c.length < 4294967281) (hv : v.length ≤ 256)
    (hsl : ∀ ts, sliceE (cfg m) ⟨ts, []⟩ 9 (.v (.str b)) none (some (.int .i64 (bif decide ((200 : Int) < (b.length : Int)) then 200 else (b.length : Int)))) none = some (.str v))
    (h1 : strOp .add a v = some (.str (a ++ v))) (h2 : strOp .add (a ++ v) c = some (.str (a ++ v ++ c))) (hx : Lib.contains a v = false) (hp : decide ((v.length : Int) > 0) = true) (hy : decide ((v.length : Int) ≤ (c.length : Int)) = false) (hz : Lib.contains c v = false) : evCall (cfg m) 3001 0 3 [.str a, .str b, .str c] [] = some (.bool true, []) :=
  evP (k := 3000) [(1, 0, .res (.bool true) []), (4, 4, .mem (.str v) [] .z), (5, 2, .res (.tup [.ptr 2 0, .int .i64 0]) (L1 v)), (6, 1, .res (.tup [.ptr 5 0, .int .i64 0]) (L2 v)), (9, 16, .val (.str (a ++ v))), (9, 18, .val (.str (a ++ v ++ c))), (9, 19, .res (.bool true) (L2 v)), (9, 27, .res (.bool true) (L2 v)), (9, 35, .res (.bool false) (L2 v)), (9, 39, .val (.bool true)), (9, 47, .val (.bool false)), (9, 54, .res (.bool false) (L2 v))]
    (φs := [evCall (cfg m) 3000 0 4 [] [] = some (.bool true, []),
      (∀ ts, sliceE (cfg m) ⟨ts, []⟩ 9 (.v (.str b)) none (some (.int .i64 (bif decide ((200 : Int) < (b.length : Int)) then 200 else (b.length : Int)))) none = some (.str v)) ∧ ([] : List Blk) = [] ∧ (Fp.z : Fp) = .z,
      evCall (cfg m) 3000 0 5 [.agg (stage v)] [] = some (.tup [.ptr 2 0, .int .i64 0], L1 v),
      evCall (cfg m) 3000 0 5 [.agg (stage [])] (L1 v) = some (.tup [.ptr 5 0, .int .i64 0], L2 v),
      strOp .add a v = some (.str (a ++ v)),
      strOp .add (a ++ v) c = some (.str (a ++ v ++ c)),
      evCall (cfg m) 3000 0 6 [tl, .str (a ++ v ++ c)] (L2 v) = some (.bool true, L2 v),
      evCall (cfg m) 3000 0 6 [tn, .str a] (L2 v) = some (.bool true, L2 v),
      evCall (cfg m) 3000 0 6 [tl, .str a] (L2 v) = some (.bool false, L2 v),
      some (AV.bool (decide ((v.length : Int) > 0))) = some (.bool true),
      some (AV.bool (decide ((v.length : Int) ≤ (c.length : Int)))) = some (.bool false),
      evCall (cfg m) 3000 0 6 [tl, .str c] (L2 v) = some (.bool false, L2 v)])
    (by kernel_rfl) ⟨(ex m), (⟨hsl, rfl, rfl⟩), (line1 m v hv), (line2 m v), (h1), (h2), (tl_true m v _ (by simp; omega) (has_inside a v c)), (tn_true m v a (by omega) (has_nothing a)), (tl_false m v a (by omega) hx), (by rw [hp] <;> rfl), (by rw [hy] <;> rfl), (tl_false m v c (by omega) hz)⟩

theorem ty9 (m : Int) : (cfg m).ty 9 = some ⟨.string, 1, 16, [.str []], true⟩ := by kernel_rfl
theorem add_ok {x y : List UInt8} (h : x.length + y.length < 9223372036854775807) : strOp .add x y = some (.str (x ++ y)) := by
  show (bif decide (x.length + y.length ≤ 9223372036854775807) then some (AV.str (x ++ y)) else none) = _
  rw [decide_eq_true (by omega), cond_true rfl]
theorem inside_law (m : Int) (a b c : List UInt8) (h : a.length + b.length + c.length ≤ 1048576) : evCall (cfg m) 3001 0 3 [.str a, .str b, .str c] [] = some (.bool true, []) := by
  have hsl : ∀ ts, sliceE (cfg m) ⟨ts, []⟩ 9 (.v (.str b)) none (some (.int .i64 (bif decide ((200 : Int) < (b.length : Int)) then 200 else (b.length : Int)))) none = some (.str (b.take 200)) := by
    intro ts
    unfold sliceE
    simp only [ty9]
    by_cases hb : 200 < b.length
    · have e1 : decide ((200 : Int) < (b.length : Int)) = true := by simpa using (by omega : (200 : Int) < b.length)
      rw [e1, cond_true rfl]
      have e2 : bnd (some (.int .i64 200)) b.length = some 200 := by rfl
      have e3 : bnd none 0 = some 0 := rfl
      simp only [e2, e3]
      rw [show (decide (0 ≤ 200) && decide (200 ≤ b.length)) = true by simp; omega, cond_true rfl]
      simp
    · have e1 : decide ((200 : Int) < (b.length : Int)) = false := by simpa using (by omega : ¬ (200 : Int) < b.length)
      rw [e1, cond_false rfl]
      have e2 : bnd (some (.int .i64 (b.length : Int))) b.length = some b.length := by
        have : decide ((b.length : Int) < 0) = false := by simp
        unfold bnd
        simp only [this, cond_false rfl, Int.toNat_natCast]
      have e3 : bnd none 0 = some 0 := rfl
      simp only [e2, e3]
      rw [show (decide (0 ≤ b.length) && decide (b.length ≤ b.length)) = true by simp, cond_true rfl]
      simp [List.take_of_length_le (show b.length ≤ 200 by omega)]
  generalize hv : b.take 200 = v at hsl
  have hvl : v.length ≤ 200 := by rw [← hv]; simp; omega
  have h1 : strOp .add a v = some (.str (a ++ v)) := add_ok (by omega)
  have h2 : strOp .add (a ++ v) c = some (.str (a ++ v ++ c)) := add_ok (by simp; omega)
  have hn : a.length + v.length + c.length < 4294967281 := by omega
  cases hx : Lib.contains a v with
  | true =>
    by_cases hy : (v.length : Int) ≤ (c.length : Int)
    · exact way_true_true m a b c v hn (by omega) hsl h1 h2 hx (decide_eq_true hy)
    · exact way_true_false m a b c v hn (by omega) hsl h1 h2 hx (decide_eq_false hy) (has_no_room (by omega))
  | false =>
    have hp : (v.length : Int) > 0 := by
      have : v ≠ [] := by intro e; rw [e, has_nothing] at hx; cases hx
      have := List.length_pos_iff.2 this
      omega
    by_cases hy : (v.length : Int) ≤ (c.length : Int)
    · exact way_false_true m a b c v hn (by omega) hsl h1 h2 hx (decide_eq_true hp) (decide_eq_true hy)
    · exact way_false_false m a b c v hn (by omega) hsl h1 h2 hx (decide_eq_true hp) (decide_eq_false hy) (has_no_room (by omega))
end Go.Proofs.YtgcjiljnhldchaaGreatDoor.E.S5
