/- archivistlaw17.SplitMany answers true at every input. -/
import Derived.Test.YtfhemdhgpcpfaaaEAllx
import Derived.Test.YtfhemdhgpcpfaaaERng
set_option linter.unusedSimpArgs false
set_option linter.unusedVariables false
namespace Go.Proofs.Ytfhemdhgpcpfaaa.E.S1
open Go Go.Proofs E

abbrev I (n : Int) : Int := IntKind.i64.wrap n
abbrev mnI (a b : Int) : Int := bif decide (b < a) then b else a
abbrev mxI (a b : Int) : Int := bif decide (a < b) then b else a
abbrev To (x l : Int) : Int := I (I (I x + I l) + 1)

theorem manyA (x l a b n m q : Int) (L : List (Int × Int)) (hex : evCall cfg 1000 0 8 [] [] = some (.bool true, []))
    (h1 : evCall cfg 1000 0 9 [.int .i64 (I x), .int .i64 (To x l), .int .i64 (I (I (mnI a b) + 1))] [] = some (.tup [.int .i64 n, .int .i64 0], []))
    (h2 : evCall cfg 1000 0 9 [.int .i64 (I x), .int .i64 (To x l), .int .i64 (I (I (mxI a b) + 1))] [] = some (.tup [.int .i64 m, .int .i64 0], []))
    (h3 : evCall cfg 1000 0 11 [.int .i64 (I x), .int .i64 (To x l), .int .i64 (I (I (mnI a b) + 1)), .bool false] [] = some (.tup [.lit 2 .sealed (L.map sp), .int .i64 0], []))
    (h4 : evCall cfg 1000 0 9 [.int .i64 (I x), .int .i64 (To x l), .int .i64 (I (To x l - I x))] [] = some (.tup [.int .i64 1, .int .i64 0], []))
    (h5 : (bif I (I (mnI a b) + 1) == 0 then none else some (AV.int .i64 (I ((I l).tdiv (I (I (mnI a b) + 1)))))) = some (.int .i64 q))
    (h6 : decide (I (q + 1) > 64) = false) (h7 : decide (m ≤ n) = true) (h8 : (((L.map sp).length : Int) == n) = true) :
    evCall cfg 1001 0 7 [.int .i32 x, .int .u16 l, .int .u16 a, .int .u16 b] [] = some (.bool true, []) :=
  evP (k := 1000) [(1, 0, .res (.bool true) []), (8, 3, .res (.tup [.int .i64 n, .int .i64 0]) []), (9, 3, .res (.tup [.int .i64 m, .int .i64 0]) []), (10, 3, .res (.tup [.lit 2 .sealed (L.map sp), .int .i64 0]) []), (11, 5, .res (.tup [.int .i64 1, .int .i64 0]) []),
      (12, 3, .val (.int .i64 q)), (12, 5, .val (.bool false)), (13, 22, .val (.bool true)), (13, 27, .val (.bool true))]
    (φs := [evCall cfg 1000 0 8 [] [] = some (.bool true, []),
      evCall cfg 1000 0 9 [.int .i64 (I x), .int .i64 (To x l), .int .i64 (I (I (mnI a b) + 1))] [] = some (.tup [.int .i64 n, .int .i64 0], []),
      evCall cfg 1000 0 9 [.int .i64 (I x), .int .i64 (To x l), .int .i64 (I (I (mxI a b) + 1))] [] = some (.tup [.int .i64 m, .int .i64 0], []),
      evCall cfg 1000 0 11 [.int .i64 (I x), .int .i64 (To x l), .int .i64 (I (I (mnI a b) + 1)), .bool false] [] = some (.tup [.lit 2 .sealed (L.map sp), .int .i64 0], []),
      evCall cfg 1000 0 9 [.int .i64 (I x), .int .i64 (To x l), .int .i64 (I (To x l - I x))] [] = some (.tup [.int .i64 1, .int .i64 0], []),
      (bif I (I (mnI a b) + 1) == 0 then none else some (AV.int .i64 (I ((I l).tdiv (I (I (mnI a b) + 1)))))) = some (.int .i64 q),
      some (AV.bool (decide (I (q + 1) > 64))) = some (.bool false), some (AV.bool (decide (m ≤ n))) = some (.bool true), some (AV.bool (((L.map sp).length : Int) == n)) = some (.bool true)])
    (by kernel_rfl) (by rw [h6, h7, h8]; exact ⟨hex, h1, h2, h3, h4, h5, rfl, rfl, rfl⟩)

theorem manyB (x l a b m q f : Int) (hex : evCall cfg 1000 0 8 [] [] = some (.bool true, []))
    (hf : f = 0 ∨ f = 3)
    (h1 : evCall cfg 1000 0 9 [.int .i64 (I x), .int .i64 (To x l), .int .i64 (I (I (mnI a b) + 1))] [] = some (.tup [.int .i64 0, .int .i64 3], []))
    (h2 : evCall cfg 1000 0 9 [.int .i64 (I x), .int .i64 (To x l), .int .i64 (I (I (mxI a b) + 1))] [] = some (.tup [.int .i64 m, .int .i64 f], []))
    (h3 : evCall cfg 1000 0 11 [.int .i64 (I x), .int .i64 (To x l), .int .i64 (I (I (mnI a b) + 1)), .bool false] [] = some (.tup [.nilS, .int .i64 3], []))
    (h4 : evCall cfg 1000 0 9 [.int .i64 (I x), .int .i64 (To x l), .int .i64 (I (To x l - I x))] [] = some (.tup [.int .i64 1, .int .i64 0], []))
    (h5 : (bif I (I (mnI a b) + 1) == 0 then none else some (AV.int .i64 (I ((I l).tdiv (I (I (mnI a b) + 1)))))) = some (.int .i64 q))
    (h6 : decide (I (q + 1) > 64) = true) :
    evCall cfg 1001 0 7 [.int .i32 x, .int .u16 l, .int .u16 a, .int .u16 b] [] = some (.bool true, []) := by
  rcases hf with rfl | rfl
  · exact evP (k := 1000) [(1, 0, .res (.bool true) []), (8, 3, .res (.tup [.int .i64 0, .int .i64 3]) []), (9, 3, .res (.tup [.int .i64 m, .int .i64 0]) []), (10, 3, .res (.tup [.nilS, .int .i64 3]) []), (11, 5, .res (.tup [.int .i64 1, .int .i64 0]) []),
      (12, 3, .val (.int .i64 q)), (12, 5, .val (.bool true))]
      (φs := [evCall cfg 1000 0 8 [] [] = some (.bool true, []),
      evCall cfg 1000 0 9 [.int .i64 (I x), .int .i64 (To x l), .int .i64 (I (I (mnI a b) + 1))] [] = some (.tup [.int .i64 0, .int .i64 3], []),
      evCall cfg 1000 0 9 [.int .i64 (I x), .int .i64 (To x l), .int .i64 (I (I (mxI a b) + 1))] [] = some (.tup [.int .i64 m, .int .i64 0], []),
      evCall cfg 1000 0 11 [.int .i64 (I x), .int .i64 (To x l), .int .i64 (I (I (mnI a b) + 1)), .bool false] [] = some (.tup [.nilS, .int .i64 3], []),
      evCall cfg 1000 0 9 [.int .i64 (I x), .int .i64 (To x l), .int .i64 (I (To x l - I x))] [] = some (.tup [.int .i64 1, .int .i64 0], []),
      (bif I (I (mnI a b) + 1) == 0 then none else some (AV.int .i64 (I ((I l).tdiv (I (I (mnI a b) + 1)))))) = some (.int .i64 q),
      some (AV.bool (decide (I (q + 1) > 64))) = some (.bool true)])
      (by kernel_rfl) (by rw [h6]; exact ⟨hex, h1, h2, h3, h4, h5, rfl⟩)
  · exact evP (k := 1000) [(1, 0, .res (.bool true) []), (8, 3, .res (.tup [.int .i64 0, .int .i64 3]) []), (9, 3, .res (.tup [.int .i64 m, .int .i64 3]) []), (10, 3, .res (.tup [.nilS, .int .i64 3]) []), (11, 5, .res (.tup [.int .i64 1, .int .i64 0]) []),
      (12, 3, .val (.int .i64 q)), (12, 5, .val (.bool true))]
      (φs := [evCall cfg 1000 0 8 [] [] = some (.bool true, []),
      evCall cfg 1000 0 9 [.int .i64 (I x), .int .i64 (To x l), .int .i64 (I (I (mnI a b) + 1))] [] = some (.tup [.int .i64 0, .int .i64 3], []),
      evCall cfg 1000 0 9 [.int .i64 (I x), .int .i64 (To x l), .int .i64 (I (I (mxI a b) + 1))] [] = some (.tup [.int .i64 m, .int .i64 3], []),
      evCall cfg 1000 0 11 [.int .i64 (I x), .int .i64 (To x l), .int .i64 (I (I (mnI a b) + 1)), .bool false] [] = some (.tup [.nilS, .int .i64 3], []),
      evCall cfg 1000 0 9 [.int .i64 (I x), .int .i64 (To x l), .int .i64 (I (To x l - I x))] [] = some (.tup [.int .i64 1, .int .i64 0], []),
      (bif I (I (mnI a b) + 1) == 0 then none else some (AV.int .i64 (I ((I l).tdiv (I (I (mnI a b) + 1)))))) = some (.int .i64 q),
      some (AV.bool (decide (I (q + 1) > 64))) = some (.bool true)])
      (by kernel_rfl) (by rw [h6]; exact ⟨hex, h1, h2, h3, h4, h5, rfl⟩)

theorem ediv_anti {n v w : Int} (hn : 0 ≤ n) (hv : 1 ≤ v) (h : v ≤ w) : n / w ≤ n / v := by
  apply Int.le_ediv_of_mul_le (by omega)
  have h1 : n / w * v ≤ n / w * w := Int.mul_le_mul_of_nonneg_left h (Int.ediv_nonneg hn (by omega))
  have h2 : n / w * w ≤ n := Int.ediv_mul_le n (by omega)
  omega

theorem many_law (x l a b : Int) (hx : -2147483648 ≤ x ∧ x ≤ 2147483647) (hl : 0 ≤ l ∧ l ≤ 65535) (ha : 0 ≤ a ∧ a ≤ 65535) (hb : 0 ≤ b ∧ b ≤ 65535) :
    evCall cfg 1001 0 7 [.int .i32 x, .int .u16 l, .int .u16 a, .int .u16 b] [] = some (.bool true, []) := by
  have ex1 : I x = x := wrap_in ⟨by omega, by omega⟩
  have el : I l = l := wrap_in ⟨by omega, by omega⟩
  have et : To x l = x + l + 1 := by
    unfold To
    rw [ex1, el, show I (x + l) = x + l from wrap_in ⟨by omega, by omega⟩]
    exact wrap_in ⟨by omega, by omega⟩
  obtain ⟨v, hv⟩ : ∃ v, v = mnI a b + 1 := ⟨_, rfl⟩
  obtain ⟨w, hw⟩ : ∃ w, w = mxI a b + 1 := ⟨_, rfl⟩
  have bmn : 0 ≤ mnI a b ∧ mnI a b ≤ 65535 := by simp only [mnI, cond_eq_ite]; split <;> assumption
  have bmx : 0 ≤ mxI a b ∧ mxI a b ≤ 65535 := by simp only [mxI, cond_eq_ite]; split <;> assumption
  have ble : mnI a b ≤ mxI a b := by simp only [mnI, mxI, cond_eq_ite, decide_eq_true_eq]; split <;> split <;> omega
  have ev : I (I (mnI a b) + 1) = v := by
    rw [show I (mnI a b) = mnI a b from wrap_in ⟨by omega, by omega⟩, hv]
    exact wrap_in ⟨by omega, by omega⟩
  have ew : I (I (mxI a b) + 1) = w := by
    rw [show I (mxI a b) = mxI a b from wrap_in ⟨by omega, by omega⟩, hw]
    exact wrap_in ⟨by omega, by omega⟩
  have ed : I (To x l - I x) = l + 1 := by rw [et, ex1, show x + l + 1 - x = l + 1 by omega]; exact wrap_in ⟨by omega, by omega⟩
  have hq : (bif I (I (mnI a b) + 1) == 0 then none else some (AV.int .i64 (I ((I l).tdiv (I (I (mnI a b) + 1)))))) = some (.int .i64 (l / v)) := by
    rw [ev, el]
    have : (v == 0) = false := by simp; omega
    rw [this, cond_false rfl, Int.tdiv_eq_ediv_of_nonneg hl.1]
    have l1 : 0 ≤ l / v := Int.ediv_nonneg hl.1 (by omega)
    have l2 : l / v ≤ l := Int.ediv_le_self _ hl.1
    rw [show I (l / v) = l / v from wrap_in ⟨by omega, by omega⟩]
  have l1 : 0 ≤ l / v := Int.ediv_nonneg hl.1 (by omega)
  have l2 : l / v ≤ l := Int.ediv_le_self _ hl.1
  have e6 : I (l / v + 1) = l / v + 1 := wrap_in ⟨by omega, by omega⟩
  have mv : many x (x + l + 1) v = l / v + 1 := by unfold many; rw [show x + l + 1 - x - 1 = l by omega]
  have mw : many x (x + l + 1) w = l / w + 1 := by unfold many; rw [show x + l + 1 - x - 1 = l by omega]
  have mo : many x (x + l + 1) (l + 1) = 1 := by unfold many; rw [show x + l + 1 - x - 1 = l by omega, Int.ediv_eq_zero_of_lt hl.1 (by omega)]; rfl
  have hle : l / w ≤ l / v := ediv_anti hl.1 (by omega) (by omega)
  have rx : R64 x := ⟨by omega, by omega⟩
  have rt : R64 (x + l + 1) := ⟨by omega, by omega⟩
  have rv : R64 v := ⟨by omega, by omega⟩
  have rw' : R64 w := ⟨by omega, by omega⟩
  have ro : R64 (l + 1) := ⟨by omega, by omega⟩
  have h4 : evCall cfg 1000 0 9 [.int .i64 (I x), .int .i64 (To x l), .int .i64 (I (To x l - I x))] [] = some (.tup [.int .i64 1, .int .i64 0], []) := by
    rw [ed, et, ex1]
    have := many_good rx rt ro 999 0 [] (by unfold bad; rw [mo]; omega)
    rw [mo] at this
    exact this
  by_cases h : l / v + 1 > 64
  · have hbad : bad x (x + l + 1) v := .inr (.inr (by rw [mv]; exact h))
    have h1 := many_bad rx rt rv 999 0 [] hbad
    have h3 := all_bad rx rt rv false 998 0 [] hbad
    by_cases hg : l / w + 1 > 64
    · have h2 := many_bad rx rt rw' 999 0 [] (.inr (.inr (by rw [mw]; exact hg)))
      exact manyB x l a b 0 (l / v) 3 ex (.inr rfl) (by rw [ev, et, ex1]; exact h1) (by rw [ew, et, ex1]; exact h2) (by rw [ev, et, ex1]; exact h3) h4 hq (by rw [e6]; simpa using h)
    · have h2 := many_good rx rt rw' 999 0 [] (by unfold bad; rw [mw]; omega)
      exact manyB x l a b _ (l / v) 0 ex (.inl rfl) (by rw [ev, et, ex1]; exact h1) (by rw [ew, et, ex1]; exact h2) (by rw [ev, et, ex1]; exact h3) h4 hq (by rw [e6]; simpa using h)
  · have hg : ¬ bad x (x + l + 1) v := by unfold bad; rw [mv]; omega
    have h1 := many_good rx rt rv 999 0 [] hg
    have h2 := many_good rx rt rw' 999 0 [] (by unfold bad; rw [mw]; omega)
    have h3 := all_good rx rt rv hg false 998 0 [] (by omega)
    refine manyA x l a b _ _ (l / v) _ ex (by rw [ev, et, ex1]; exact h1) (by rw [ew, et, ex1]; exact h2) (by rw [ev, et, ex1]; exact h3) h4 hq (by rw [e6]; simpa using h) ?_ ?_
    · rw [mv, mw]; simp; omega
    · simp [allL, pcs_len, mv]; omega
end Go.Proofs.Ytfhemdhgpcpfaaa.E.S1
