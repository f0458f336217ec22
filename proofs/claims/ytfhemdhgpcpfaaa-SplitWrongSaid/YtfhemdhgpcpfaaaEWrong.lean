/- archivistlaw17.SplitWrong answers true at every three int64. -/
import Derived.Test.YtfhemdhgpcpfaaaEMany
set_option linter.unusedSimpArgs false
set_option linter.unusedVariables false
namespace Go.Proofs.Ytfhemdhgpcpfaaa.E.S1
open Go Go.Proofs E

theorem and_bound (w : Int) : (BitVec.ofInt 64 w &&& BitVec.ofInt 64 1023).toNat ≤ 1023 := by
  rw [BitVec.toNat_and]
  exact Nat.and_le_right

theorem wrong (a b w : Int) (ha : R64 a) (hb : R64 b) (hw : R64 w) : evCall cfg 1001 0 6 [.int .i64 a, .int .i64 b, .int .i64 w] [] = some (.bool true, []) := by
  have e1 : IntKind.i64.wrap (0 - w) = (if w = -9223372036854775808 then w else -w) := by
    rw [i_eq]; obtain ⟨h1, h2⟩ := hw; split <;> split <;> omega
  have hv : R64 (IntKind.i64.wrap (0 - (bif decide (w < IntKind.i64.wrap (0 - w)) then IntKind.i64.wrap (0 - w) else w))) ∧ IntKind.i64.wrap (0 - (bif decide (w < IntKind.i64.wrap (0 - w)) then IntKind.i64.wrap (0 - w) else w)) < 1 := by
    obtain ⟨h1, h2⟩ := hw
    rw [e1, cond_eq_ite]
    simp only [decide_eq_true_eq]
    rw [i_eq]
    unfold R64
    constructor
    · constructor <;> split <;> split <;> (try split) <;> omega
    · split <;> split <;> (try split) <;> omega
  have hx : ∃ y : Int, 1 ≤ y ∧ y ≤ 1024 ∧ IntKind.i64.wrap (1 + IntKind.i64.wrap ((BitVec.ofInt 64 w &&& BitVec.ofInt 64 1023).toNat : Int)) = y := by
    have := and_bound w
    generalize (BitVec.ofInt 64 w &&& BitVec.ofInt 64 1023).toNat = n at this
    refine ⟨1 + n, by omega, by omega, ?_⟩
    have e : IntKind.i64.wrap (n : Int) = n := by rw [i_eq]; split <;> omega
    rw [e, i_eq]; split <;> omega
  obtain ⟨y, hy1, hy2, hy⟩ := hx
  refine evP (k := 1000) [(1, 0, .res (.bool true) []), (6, 3, .res (.tup [.int .i64 0, .int .i64 3]) []), (7, 7, .res (.tup [.nilS, .int .i64 3]) []), (8, 3, .res (.tup [.nilS, .int .i64 3]) [])]
    (φs := [evCall cfg 1000 0 8 [] [] = some (.bool true, []),
      evCall cfg 1000 0 9 [.int .i64 (bif decide (a < b) then b else a), .int .i64 (bif decide (b < a) then b else a), .int .i64 w] [] = some (.tup [.int .i64 0, .int .i64 3], []),
      evCall cfg 1000 0 11 [.int .i64 a, .int .i64 b, .int .i64 (IntKind.i64.wrap (0 - (bif decide (w < IntKind.i64.wrap (0 - w)) then IntKind.i64.wrap (0 - w) else w))), .bool true] [] = some (.tup [.nilS, .int .i64 3], []),
      evCall cfg 1000 0 11 [.int .i64 (-4611686018427387904), .int .i64 4611686018427387904, .int .i64 (IntKind.i64.wrap (1 + IntKind.i64.wrap ((BitVec.ofInt 64 w &&& BitVec.ofInt 64 1023).toNat : Int))), .bool true] [] = some (.tup [.nilS, .int .i64 3], [])])
    (by kernel_rfl) ⟨ex, ?_, ?_, ?_⟩
  · refine many_bad (k := 999) ?_ ?_ hw 0 [] (.inl ?_)
    · rw [cond_eq_ite]; split <;> assumption
    · rw [cond_eq_ite]; split <;> assumption
    · simp only [cond_eq_ite, decide_eq_true_eq]; split <;> split <;> omega
  · exact all_bad (k := 998) ha hb hv.1 true 0 [] (.inr (.inl hv.2))
  · rw [hy]
    refine all_bad (k := 998) ⟨by omega, by omega⟩ ⟨by omega, by omega⟩ ⟨by omega, by omega⟩ true 0 [] (.inr (.inr ?_))
    unfold many
    have : (4611686018427387904 - -4611686018427387904 - 1) / y ≥ (4611686018427387904 - -4611686018427387904 - 1) / 1024 := by
      apply Int.le_ediv_of_mul_le (by omega)
      have : (4611686018427387904 - -4611686018427387904 - 1 : Int) / 1024 = 9007199254740991 := by decide
      rw [this]
      omega
    omega
end Go.Proofs.Ytfhemdhgpcpfaaa.E.S1
