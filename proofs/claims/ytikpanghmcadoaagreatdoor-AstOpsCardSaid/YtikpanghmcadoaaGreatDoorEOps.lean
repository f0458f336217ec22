/- archivistlaw08.AstOps answers true at every input. -/
import Derived.Test.YtikpanghmcadoaaGreatDoorEHead
set_option linter.unusedSimpArgs false
set_option linter.unusedVariables false
namespace Go.Proofs.YtikpanghmcadoaaGreatDoor.E.S3
open Go Go.Proofs E

noncomputable def bodyOf (f : Func) (r : Nat) : Code := match f.body with
  | some b => (loopAt r b).getD .skip
  | none => .skip
abbrev strs (ss : List (List UInt8)) : List AV := ss.map .str
noncomputable def HX (s : List UInt8) (l : List AV) (i : Int) (hp : List Blk) : St := ⟨slots 19 [(0, .lit 1 .exact l), (1, .str s), (7, .int .i64 l.length), (8, .int .i64 i)], hp⟩
noncomputable abbrev LX (k fl : Nat) := loopN cfg (evCall cfg k fl) fl 40 k (bodyOf Tryz.f40 2) 2
theorem ix_end (s : List UInt8) (l : List AV) (i : Int) (hp : List Blk) (k fl m : Nat) (h : decide (i < (l.length : Int)) = false) : LX k fl (m + 1) (HX s l i hp) = some (.exit 0, ⟨slots 19 [], hp⟩) :=
  loop_exit (π := [(2, 0, .val (.bool false))]) (φs := [some (AV.bool (decide (i < (l.length : Int)))) = some (.bool false)]) (by kernel_rfl) (fun h => by cases h) (by rw [h]; rfl)
theorem ix_step (s x : List UInt8) (l : List AV) (i : Int) (hp : List Blk) (k fl m : Nat) (h : decide (i < (l.length : Int)) = true) (hi : indexAddr cfg 44 (.v (.lit 1 .exact l)) i = some (.v (.rop (.str x)))) (hx : (s == x) = false) :
    LX k fl (m + 1) (HX s l i hp) = LX k fl m (HX s l (IntKind.i64.wrap (i + 1)) hp) :=
  loop_step (π := [(2, 0, .val (.bool true)), (4, 3, .val (.rop (.str x))), (4, 5, .val (.bool false))])
    (φs := [some (AV.bool (decide (i < (l.length : Int)))) = some (.bool true), indexAddr cfg 44 (.v (.lit 1 .exact l)) i = some (.v (.rop (.str x))), some (AV.bool (s == x)) = some (.bool false)])
    (by kernel_rfl) (by rw [h, hx]; exact ⟨rfl, hi, rfl⟩)

theorem ty44 : cfg.ty 44 = some ⟨.slice 9, 1, 24, [.nilS], true⟩ := by kernel_rfl
theorem ty9 : cfg.ty 9 = some ⟨.string, 1, 16, [.str []], true⟩ := by kernel_rfl
theorem idx_str {l : List AV} {i : Nat} {x : AV} {own : Own} (h : l[i]? = some x) : indexAddr cfg 44 (.v (.lit 1 own l)) (i : Int) = some (.v (.rop x)) := by
  unfold indexAddr
  have e1 : decide ((i : Int) < 0) = false := by simp
  simp [ty44, ty9, e1, getAt_eq, h]
theorem i_eq (n : Int) : IntKind.i64.wrap n = (if n % 18446744073709551616 ≥ 9223372036854775808 then n % 18446744073709551616 - 18446744073709551616 else n % 18446744073709551616) := by
  unfold IntKind.wrap; simp [IntKind.bits, IntKind.signed]
theorem wrap_nat {n : Nat} (h : n ≤ 1000000) : IntKind.i64.wrap ((n : Int) + 1) = ((n + 1 : Nat) : Int) := by
  rw [i_eq]; split <;> omega

/-- a text that is none of some -/
theorem ix_loop (s : List UInt8) (ss : List (List UInt8)) (hss : ss.length ≤ 1000) (hs : ∀ x ∈ ss, (s == x) = false) (hp : List Blk) (k fl : Nat) :
    ∀ (n i q : Nat), i + n = ss.length → LX k fl (n + 1 + q) (HX s (strs ss) i hp) = some (.exit 0, ⟨slots 19 [], hp⟩)
  | 0, i, q, hi => by
    rw [show 0 + 1 + q = q + 1 by omega]
    exact ix_end _ _ _ _ _ _ _ (by simp; omega)
  | n + 1, i, q, hi => by
    obtain ⟨x, hx⟩ : ∃ x, ss[i]? = some x := ⟨ss[i], List.getElem?_eq_getElem (by omega)⟩
    rw [show n + 1 + 1 + q = (n + 1 + q) + 1 by omega, ix_step s x (strs ss) i hp k fl _ (by simp; omega) (idx_str (by rw [List.getElem?_map, hx]; rfl)) (hs x (List.mem_of_getElem? hx)), wrap_nat (by omega)]
    exact ix_loop s ss hss hs hp k fl n (i + 1) q (by omega)
theorem ix_ev (s : List UInt8) (ss : List (List UInt8)) (hss : ss.length ≤ 1000) (hs : ∀ x ∈ ss, (s == x) = false) (hp : List Blk) (k fl : Nat) (hk : 1100 ≤ k) :
    evCall cfg (k + 1) fl 40 [.lit 1 .exact (strs ss), .str s] hp = some (.int .i64 (-1), hp) := by
  have := ix_loop s ss hss hs hp k hp.length ss.length 0 (k - ss.length - 1) (by omega)
  rw [show ss.length + 1 + (k - ss.length - 1) = k by omega] at this
  exact evP [(2, 1000000, .loop (.exit 0) ⟨slots 19 [], hp⟩)] (φs := [loopN cfg (evCall cfg k hp.length) hp.length 40 k (bodyOf Tryz.f40 2) 2 k (HX s (strs ss) 0 hp) = some (.exit 0, ⟨slots 19 [], hp⟩)]) (by kernel_rfl) this
theorem among_no (s : List UInt8) (ss : List (List UInt8)) (hss : ss.length ≤ 1000) (hs : ∀ x ∈ ss, (s == x) = false) (hp : List Blk) (k fl : Nat) (hk : 1100 ≤ k) :
    evCall cfg (k + 2) fl 29 [.str s, .lit 1 .exact (strs ss)] hp = some (.int .i64 (-1), hp) :=
  evP [(1, 2, .res (.int .i64 (-1)) hp)] (φs := [evCall cfg (k + 1) hp.length 40 [.lit 1 .exact (strs ss), .str s] hp = some (.int .i64 (-1), hp)]) (by kernel_rfl) (ix_ev s ss hss hs hp k _ hk)
theorem right_no (s v : List UInt8) (ss : List (List UInt8)) (hss : ss.length ≤ 1000) (hs : ∀ x ∈ ss, (s == x) = false) (hp : List Blk) (k fl : Nat) (hk : 1100 ≤ k) :
    evCall cfg (k + 3) fl 30 [.agg [.str s, .str v], .lit 1 .exact (strs ss)] hp = some (.bool false, hp) :=
  evP [(1, 3, .res (.int .i64 (-1)) hp)] (φs := [evCall cfg (k + 2) hp.length 29 [.str s, .lit 1 .exact (strs ss)] hp = some (.int .i64 (-1), hp)]) (by kernel_rfl) (among_no s ss hss hs hp k _ hk)

abbrev textOps : List (List UInt8) := [[61], [33, 61], [61, 126], [33, 126]]
abbrev lineOps : List (List UInt8) := [[124, 61], [33, 61], [124, 126], [33, 126]]
abbrev numOps : List (List UInt8) := [[61, 61], [33, 61], [62], [62, 61], [60], [60, 61]]
theorem fits_no (s v : List UInt8) (hs : ∀ x ∈ textOps, (s == x) = false) (hp : List Blk) (k fl : Nat) (hk : 1100 ≤ k) :
    evCall cfg (k + 4) fl 27 [.agg [.str s, .str v, .str [110]]] hp = some (.bool false, hp) := by
  obtain ⟨k, rfl⟩ : ∃ m, k = m + 1100 := ⟨k - 1100, by omega⟩
  exact evP [(1, 7, .res (.bool false) hp)] (φs := [evCall cfg (k + 1100 + 3) hp.length 30 [.agg [.str s, .str v], .lit 1 .exact (strs textOps)] hp = some (.bool false, hp)]) (by kernel_rfl) (right_no s v textOps (by decide) hs hp (k + 1100) _ hk)
theorem matcher_no (s v : List UInt8) (hs : ∀ x ∈ textOps, (s == x) = false) (hp : List Blk) (k fl : Nat) (hk : 1100 ≤ k) :
    evCall cfg (k + 5) fl 13 [.agg [.str [110], .str s, .str v]] hp = some (.bool false, hp) :=
  evP [(1, 2, .res (.bool false) hp)] (φs := [evCall cfg (k + 4) hp.length 27 [.agg [.str s, .str v, .str [110]]] hp = some (.bool false, hp)]) (by kernel_rfl) (fits_no s v hs hp k _ hk)
theorem line_no (s v : List UInt8) (hs : ∀ x ∈ lineOps, (s == x) = false) (hp : List Blk) (k fl : Nat) (hk : 1100 ≤ k) :
    evCall cfg (k + 4) fl 14 [.agg [.int .i64 1, .str [], .str s, .str v, .int .i64 0, .int .i64 0]] hp = some (.bool false, hp) :=
  evP [(8, 8, .res (.bool false) hp)] (φs := [evCall cfg (k + 3) hp.length 30 [.agg [.str s, .str v], .lit 1 .exact (strs lineOps)] hp = some (.bool false, hp)]) (by kernel_rfl) (right_no s v lineOps (by decide) hs hp k _ hk)
theorem label_no (s v : List UInt8) (hs : ∀ x ∈ textOps, (s == x) = false) (hp : List Blk) (k fl : Nat) (hk : 1100 ≤ k) :
    evCall cfg (k + 5) fl 14 [.agg [.int .i64 3, .str [110], .str s, .str v, .int .i64 0, .int .i64 0]] hp = some (.bool false, hp) :=
  evP [(12, 6, .res (.bool false) hp)] (φs := [evCall cfg (k + 4) hp.length 27 [.agg [.str s, .str v, .str [110]]] hp = some (.bool false, hp)]) (by kernel_rfl) (fits_no s v hs hp k _ hk)
theorem compare_no (s : List UInt8) (hs : ∀ x ∈ numOps, (s == x) = false) (hp : List Blk) (k fl : Nat) (hk : 1100 ≤ k) :
    evCall cfg (k + 3) fl 14 [.agg [.int .i64 4, .str [110], .str s, .str [], .int .i64 1, .int .i64 0]] hp = some (.bool false, hp) := by
  obtain ⟨k, rfl⟩ : ∃ m, k = m + 1100 := ⟨k - 1100, by omega⟩
  exact evP [(3, 20, .res (.int .i64 (-1)) hp)] (φs := [evCall cfg (k + 1100 + 2) hp.length 29 [.str s, .lit 1 .exact (strs numOps)] hp = some (.int .i64 (-1), hp)]) (by kernel_rfl) (among_no s numOps (by decide) hs hp (k + 1100) _ hk)

abbrev allOps : List (List UInt8) := [[61], [33, 61], [61, 126], [33, 126], [124, 61], [124, 126], [61, 61], [62], [62, 61], [60], [60, 61]]
theorem subT : ∀ x ∈ textOps, x ∈ allOps := by decide
theorem subL : ∀ x ∈ lineOps, x ∈ allOps := by decide
theorem subN : ∀ x ∈ numOps, x ∈ allOps := by decide
/-- a text that is no op -/
theorem ops_none (s : List UInt8) (j : Int) (h : ∀ x ∈ allOps, (s == x) = false) : evCall cfg 3001 0 5 [.str s, .int .u8 j, .bool false] [] = some (.bool true, []) := by
  have no : ∀ x ∈ allOps, some (AV.bool (s == x)) = some (.bool false) := fun x hx => by rw [h x hx]
  exact evP (k := 3000) [(1, 0, .res (.bool true) []), (6, 1, .val (.bool false)), (6, 4, .val (.bool false)), (6, 8, .val (.bool false)), (6, 12, .val (.bool false)), (7, 1, .val (.bool false)), (7, 4, .val (.bool false)), (7, 8, .val (.bool false)), (7, 12, .val (.bool false)), (8, 1, .val (.bool false)), (8, 4, .val (.bool false)), (8, 8, .val (.bool false)), (8, 12, .val (.bool false)), (8, 16, .val (.bool false)), (8, 20, .val (.bool false)), (9, 4, .res (.bool false) []), (9, 11, .res (.bool false) []), (9, 18, .res (.bool false) []), (9, 25, .res (.bool false) [])]
    (φs := [evCall cfg 3000 0 6 [] [] = some (.bool true, []),
      some (AV.bool (s == [61])) = some (.bool false),
      some (AV.bool (s == [33, 61])) = some (.bool false),
      some (AV.bool (s == [61, 126])) = some (.bool false),
      some (AV.bool (s == [33, 126])) = some (.bool false),
      some (AV.bool (s == [124, 61])) = some (.bool false),
      some (AV.bool (s == [33, 61])) = some (.bool false),
      some (AV.bool (s == [124, 126])) = some (.bool false),
      some (AV.bool (s == [33, 126])) = some (.bool false),
      some (AV.bool (s == [61, 61])) = some (.bool false),
      some (AV.bool (s == [33, 61])) = some (.bool false),
      some (AV.bool (s == [62])) = some (.bool false),
      some (AV.bool (s == [62, 61])) = some (.bool false),
      some (AV.bool (s == [60])) = some (.bool false),
      some (AV.bool (s == [60, 61])) = some (.bool false),
      evCall cfg 3000 0 13 [.agg [.str [110], .str s, .str [97]]] [] = some (.bool false, []),
      evCall cfg 3000 0 14 [.agg [.int .i64 1, .str [], .str s, .str [97], .int .i64 0, .int .i64 0]] [] = some (.bool false, []),
      evCall cfg 3000 0 14 [.agg [.int .i64 3, .str [110], .str s, .str [97], .int .i64 0, .int .i64 0]] [] = some (.bool false, []),
      evCall cfg 3000 0 14 [.agg [.int .i64 4, .str [110], .str s, .str [], .int .i64 1, .int .i64 0]] [] = some (.bool false, [])])
    (by kernel_rfl) ⟨(ex), (no [61] (by decide)), (no [33, 61] (by decide)), (no [61, 126] (by decide)), (no [33, 126] (by decide)), (no [124, 61] (by decide)), (no [33, 61] (by decide)), (no [124, 126] (by decide)), (no [33, 126] (by decide)), (no [61, 61] (by decide)), (no [33, 61] (by decide)), (no [62] (by decide)), (no [62, 61] (by decide)), (no [60] (by decide)), (no [60, 61] (by decide)), (matcher_no s [97] (fun x hx => h x (subT x hx)) [] 2995 _ (by omega)), (line_no s [97] (fun x hx => h x (subL x hx)) [] 2996 _ (by omega)), (label_no s [97] (fun x hx => h x (subT x hx)) [] 2995 _ (by omega)), (compare_no s (fun x hx => h x (subN x hx)) [] 2997 _ (by omega))⟩

theorem ops_0 (j : Int) : evCall cfg 3001 0 5 [.str [61], .int .u8 j, .bool false] [] = some (.bool true, []) :=
  evP (k := 3000) [(1, 0, .res (.bool true) [])] (φs := [evCall cfg 3000 0 6 [] [] = some (.bool true, [])]) (by kernel_rfl) ex
theorem ops_1 (j : Int) : evCall cfg 3001 0 5 [.str [33, 61], .int .u8 j, .bool false] [] = some (.bool true, []) :=
  evP (k := 3000) [(1, 0, .res (.bool true) [])] (φs := [evCall cfg 3000 0 6 [] [] = some (.bool true, [])]) (by kernel_rfl) ex
theorem ops_2 (j : Int) : evCall cfg 3001 0 5 [.str [61, 126], .int .u8 j, .bool false] [] = some (.bool true, []) :=
  evP (k := 3000) [(1, 0, .res (.bool true) [])] (φs := [evCall cfg 3000 0 6 [] [] = some (.bool true, [])]) (by kernel_rfl) ex
theorem ops_3 (j : Int) : evCall cfg 3001 0 5 [.str [33, 126], .int .u8 j, .bool false] [] = some (.bool true, []) :=
  evP (k := 3000) [(1, 0, .res (.bool true) [])] (φs := [evCall cfg 3000 0 6 [] [] = some (.bool true, [])]) (by kernel_rfl) ex
theorem ops_4 (j : Int) : evCall cfg 3001 0 5 [.str [124, 61], .int .u8 j, .bool false] [] = some (.bool true, []) :=
  evP (k := 3000) [(1, 0, .res (.bool true) [])] (φs := [evCall cfg 3000 0 6 [] [] = some (.bool true, [])]) (by kernel_rfl) ex
theorem ops_5 (j : Int) : evCall cfg 3001 0 5 [.str [124, 126], .int .u8 j, .bool false] [] = some (.bool true, []) :=
  evP (k := 3000) [(1, 0, .res (.bool true) [])] (φs := [evCall cfg 3000 0 6 [] [] = some (.bool true, [])]) (by kernel_rfl) ex
theorem ops_6 (j : Int) : evCall cfg 3001 0 5 [.str [61, 61], .int .u8 j, .bool false] [] = some (.bool true, []) :=
  evP (k := 3000) [(1, 0, .res (.bool true) [])] (φs := [evCall cfg 3000 0 6 [] [] = some (.bool true, [])]) (by kernel_rfl) ex
theorem ops_7 (j : Int) : evCall cfg 3001 0 5 [.str [62], .int .u8 j, .bool false] [] = some (.bool true, []) :=
  evP (k := 3000) [(1, 0, .res (.bool true) [])] (φs := [evCall cfg 3000 0 6 [] [] = some (.bool true, [])]) (by kernel_rfl) ex
theorem ops_8 (j : Int) : evCall cfg 3001 0 5 [.str [62, 61], .int .u8 j, .bool false] [] = some (.bool true, []) :=
  evP (k := 3000) [(1, 0, .res (.bool true) [])] (φs := [evCall cfg 3000 0 6 [] [] = some (.bool true, [])]) (by kernel_rfl) ex
theorem ops_9 (j : Int) : evCall cfg 3001 0 5 [.str [60], .int .u8 j, .bool false] [] = some (.bool true, []) :=
  evP (k := 3000) [(1, 0, .res (.bool true) [])] (φs := [evCall cfg 3000 0 6 [] [] = some (.bool true, [])]) (by kernel_rfl) ex
theorem ops_10 (j : Int) : evCall cfg 3001 0 5 [.str [60, 61], .int .u8 j, .bool false] [] = some (.bool true, []) :=
  evP (k := 3000) [(1, 0, .res (.bool true) [])] (φs := [evCall cfg 3000 0 6 [] [] = some (.bool true, [])]) (by kernel_rfl) ex
theorem own_0 (s : List UInt8) (j : Int) (h : j.tmod 12 = 0) : evCall cfg 3001 0 5 [.str s, .int .u8 j, .bool true] [] = some (.bool true, []) :=
  evP (k := 3000) [(1, 0, .res (.bool true) []), (5, 2, .val (.int .u8 0))] (φs := [evCall cfg 3000 0 6 [] [] = some (.bool true, []), some (AV.int .u8 (j.tmod 12)) = some (.int .u8 0)]) (by kernel_rfl) ⟨ex, by rw [h]; rfl⟩
theorem own_1 (s : List UInt8) (j : Int) (h : j.tmod 12 = 1) : evCall cfg 3001 0 5 [.str s, .int .u8 j, .bool true] [] = some (.bool true, []) :=
  evP (k := 3000) [(1, 0, .res (.bool true) []), (5, 2, .val (.int .u8 1))] (φs := [evCall cfg 3000 0 6 [] [] = some (.bool true, []), some (AV.int .u8 (j.tmod 12)) = some (.int .u8 1)]) (by kernel_rfl) ⟨ex, by rw [h]; rfl⟩
theorem own_2 (s : List UInt8) (j : Int) (h : j.tmod 12 = 2) : evCall cfg 3001 0 5 [.str s, .int .u8 j, .bool true] [] = some (.bool true, []) :=
  evP (k := 3000) [(1, 0, .res (.bool true) []), (5, 2, .val (.int .u8 2))] (φs := [evCall cfg 3000 0 6 [] [] = some (.bool true, []), some (AV.int .u8 (j.tmod 12)) = some (.int .u8 2)]) (by kernel_rfl) ⟨ex, by rw [h]; rfl⟩
theorem own_3 (s : List UInt8) (j : Int) (h : j.tmod 12 = 3) : evCall cfg 3001 0 5 [.str s, .int .u8 j, .bool true] [] = some (.bool true, []) :=
  evP (k := 3000) [(1, 0, .res (.bool true) []), (5, 2, .val (.int .u8 3))] (φs := [evCall cfg 3000 0 6 [] [] = some (.bool true, []), some (AV.int .u8 (j.tmod 12)) = some (.int .u8 3)]) (by kernel_rfl) ⟨ex, by rw [h]; rfl⟩
theorem own_4 (s : List UInt8) (j : Int) (h : j.tmod 12 = 4) : evCall cfg 3001 0 5 [.str s, .int .u8 j, .bool true] [] = some (.bool true, []) :=
  evP (k := 3000) [(1, 0, .res (.bool true) []), (5, 2, .val (.int .u8 4))] (φs := [evCall cfg 3000 0 6 [] [] = some (.bool true, []), some (AV.int .u8 (j.tmod 12)) = some (.int .u8 4)]) (by kernel_rfl) ⟨ex, by rw [h]; rfl⟩
theorem own_5 (s : List UInt8) (j : Int) (h : j.tmod 12 = 5) : evCall cfg 3001 0 5 [.str s, .int .u8 j, .bool true] [] = some (.bool true, []) :=
  evP (k := 3000) [(1, 0, .res (.bool true) []), (5, 2, .val (.int .u8 5))] (φs := [evCall cfg 3000 0 6 [] [] = some (.bool true, []), some (AV.int .u8 (j.tmod 12)) = some (.int .u8 5)]) (by kernel_rfl) ⟨ex, by rw [h]; rfl⟩
theorem own_6 (s : List UInt8) (j : Int) (h : j.tmod 12 = 6) : evCall cfg 3001 0 5 [.str s, .int .u8 j, .bool true] [] = some (.bool true, []) :=
  evP (k := 3000) [(1, 0, .res (.bool true) []), (5, 2, .val (.int .u8 6))] (φs := [evCall cfg 3000 0 6 [] [] = some (.bool true, []), some (AV.int .u8 (j.tmod 12)) = some (.int .u8 6)]) (by kernel_rfl) ⟨ex, by rw [h]; rfl⟩
theorem own_7 (s : List UInt8) (j : Int) (h : j.tmod 12 = 7) : evCall cfg 3001 0 5 [.str s, .int .u8 j, .bool true] [] = some (.bool true, []) :=
  evP (k := 3000) [(1, 0, .res (.bool true) []), (5, 2, .val (.int .u8 7))] (φs := [evCall cfg 3000 0 6 [] [] = some (.bool true, []), some (AV.int .u8 (j.tmod 12)) = some (.int .u8 7)]) (by kernel_rfl) ⟨ex, by rw [h]; rfl⟩
theorem own_8 (s : List UInt8) (j : Int) (h : j.tmod 12 = 8) : evCall cfg 3001 0 5 [.str s, .int .u8 j, .bool true] [] = some (.bool true, []) :=
  evP (k := 3000) [(1, 0, .res (.bool true) []), (5, 2, .val (.int .u8 8))] (φs := [evCall cfg 3000 0 6 [] [] = some (.bool true, []), some (AV.int .u8 (j.tmod 12)) = some (.int .u8 8)]) (by kernel_rfl) ⟨ex, by rw [h]; rfl⟩
theorem own_9 (s : List UInt8) (j : Int) (h : j.tmod 12 = 9) : evCall cfg 3001 0 5 [.str s, .int .u8 j, .bool true] [] = some (.bool true, []) :=
  evP (k := 3000) [(1, 0, .res (.bool true) []), (5, 2, .val (.int .u8 9))] (φs := [evCall cfg 3000 0 6 [] [] = some (.bool true, []), some (AV.int .u8 (j.tmod 12)) = some (.int .u8 9)]) (by kernel_rfl) ⟨ex, by rw [h]; rfl⟩
theorem own_10 (s : List UInt8) (j : Int) (h : j.tmod 12 = 10) : evCall cfg 3001 0 5 [.str s, .int .u8 j, .bool true] [] = some (.bool true, []) :=
  evP (k := 3000) [(1, 0, .res (.bool true) []), (5, 2, .val (.int .u8 10))] (φs := [evCall cfg 3000 0 6 [] [] = some (.bool true, []), some (AV.int .u8 (j.tmod 12)) = some (.int .u8 10)]) (by kernel_rfl) ⟨ex, by rw [h]; rfl⟩
theorem own_11 (s : List UInt8) (j : Int) (h : j.tmod 12 = 11) : evCall cfg 3001 0 5 [.str s, .int .u8 j, .bool true] [] = some (.bool true, []) :=
  evP (k := 3000) [(1, 0, .res (.bool true) []), (5, 2, .val (.int .u8 11))] (φs := [evCall cfg 3000 0 6 [] [] = some (.bool true, []), some (AV.int .u8 (j.tmod 12)) = some (.int .u8 11)]) (by kernel_rfl) ⟨ex, by rw [h]; rfl⟩

theorem ops_law (s : List UInt8) (j : Int) (own : Bool) (hj : 0 ≤ j ∧ j ≤ 255) : evCall cfg 3001 0 5 [.str s, .int .u8 j, .bool own] [] = some (.bool true, []) := by
  cases own with
  | true =>
    have e : j.tmod 12 = j % 12 := Int.tmod_eq_emod_of_nonneg hj.1
    have h0 : 0 ≤ j % 12 := Int.emod_nonneg _ (by omega)
    have h1 : j % 12 < 12 := Int.emod_lt_of_pos _ (by omega)
    have h2 : j % 12 = 0 ∨ j % 12 = 1 ∨ j % 12 = 2 ∨ j % 12 = 3 ∨ j % 12 = 4 ∨ j % 12 = 5 ∨ j % 12 = 6 ∨ j % 12 = 7 ∨ j % 12 = 8 ∨ j % 12 = 9 ∨ j % 12 = 10 ∨ j % 12 = 11 := by omega
    rcases h2 with h | h | h | h | h | h | h | h | h | h | h | h
    · exact own_0 s j (by rw [e, h])
    · exact own_1 s j (by rw [e, h])
    · exact own_2 s j (by rw [e, h])
    · exact own_3 s j (by rw [e, h])
    · exact own_4 s j (by rw [e, h])
    · exact own_5 s j (by rw [e, h])
    · exact own_6 s j (by rw [e, h])
    · exact own_7 s j (by rw [e, h])
    · exact own_8 s j (by rw [e, h])
    · exact own_9 s j (by rw [e, h])
    · exact own_10 s j (by rw [e, h])
    · exact own_11 s j (by rw [e, h])
  | false =>
    by_cases h : ∀ x ∈ allOps, (s == x) = false
    · exact ops_none s j h
    · have : ∃ x ∈ allOps, s = x := by
        apply Classical.byContradiction
        intro hn
        apply h
        intro x hx
        rw [Bool.eq_false_iff]
        intro he
        exact hn ⟨x, hx, by simpa using he⟩
      obtain ⟨x, hx, rfl⟩ := this
      simp only [allOps, List.mem_cons, List.not_mem_nil, or_false] at hx
      rcases hx with rfl | rfl | rfl | rfl | rfl | rfl | rfl | rfl | rfl | rfl | rfl
      · exact ops_0 j
      · exact ops_1 j
      · exact ops_2 j
      · exact ops_3 j
      · exact ops_4 j
      · exact ops_5 j
      · exact ops_6 j
      · exact ops_7 j
      · exact ops_8 j
      · exact ops_9 j
      · exact ops_10 j
end Go.Proofs.YtikpanghmcadoaaGreatDoor.E.S3
