/- split.Many at every argument; split.All where the range is refused. -/
import Derived.Test.YtfhemdhgpcpfaaaETab
set_option linter.unusedSimpArgs false
set_option linter.unusedVariables false
namespace Go.Proofs.Ytfhemdhgpcpfaaa.E.S1
open Go Go.Proofs E

abbrev U (n : Int) : Int := IntKind.u64.wrap n
theorem u_eq (n : Int) : U n = n % 18446744073709551616 := by
  unfold U IntKind.wrap; simp [IntKind.bits, IntKind.signed]
theorem i_eq (n : Int) : IntKind.i64.wrap n = (if n % 18446744073709551616 ≥ 9223372036854775808 then n % 18446744073709551616 - 18446744073709551616 else n % 18446744073709551616) := by
  unfold IntKind.wrap; simp [IntKind.bits, IntKind.signed]

def R64 (n : Int) : Prop := -9223372036854775808 ≤ n ∧ n ≤ 9223372036854775807

/-- how many pieces -/
def many (a b w : Int) : Int := (b - a - 1) / w + 1
def bad (a b w : Int) : Prop := a ≥ b ∨ w < 1 ∨ many a b w > 64

theorem many_A (a b w : Int) (k fl : Nat) (hp : List Blk) (h : decide (a ≥ b) = true) : evCall cfg (k + 1) fl 9 [.int .i64 a, .int .i64 b, .int .i64 w] hp = some (.tup [.int .i64 0, .int .i64 3], hp) :=
  evP [(1, 2, .val (.bool true))] (φs := [some (AV.bool (decide (a ≥ b))) = some (.bool true)]) (by kernel_rfl) (by rw [h]; rfl)
theorem many_B (a b w : Int) (k fl : Nat) (hp : List Blk) (h : decide (a ≥ b) = false) (h2 : decide (w < 1) = true) : evCall cfg (k + 1) fl 9 [.int .i64 a, .int .i64 b, .int .i64 w] hp = some (.tup [.int .i64 0, .int .i64 3], hp) :=
  evP [(1, 2, .val (.bool false)), (1, 5, .val (.bool true))] (φs := [some (AV.bool (decide (a ≥ b))) = some (.bool false), some (AV.bool (decide (w < 1))) = some (.bool true)]) (by kernel_rfl) (by rw [h, h2]; exact ⟨rfl, rfl⟩)
theorem many_C (a b w q : Int) (k fl : Nat) (hp : List Blk) (h : decide (a ≥ b) = false) (h2 : decide (w < 1) = false) (h3 : (bif U w == 0 then none else some (AV.int .u64 (U ((U (U (U b - U a) - 1)).tdiv (U w))))) = some (.int .u64 q)) (h4 : decide (U (q + 1) > 64) = true) :
    evCall cfg (k + 1) fl 9 [.int .i64 a, .int .i64 b, .int .i64 w] hp = some (.tup [.int .i64 0, .int .i64 3], hp) :=
  evP [(1, 2, .val (.bool false)), (1, 5, .val (.bool false)), (3, 8, .val (.int .u64 q)), (4, 1, .val (.bool true))]
    (φs := [some (AV.bool (decide (a ≥ b))) = some (.bool false), some (AV.bool (decide (w < 1))) = some (.bool false), (bif U w == 0 then none else some (AV.int .u64 (U ((U (U (U b - U a) - 1)).tdiv (U w))))) = some (.int .u64 q), some (AV.bool (decide (U (q + 1) > 64))) = some (.bool true)])
    (by kernel_rfl) (by rw [h, h2, h4]; exact ⟨rfl, rfl, h3, rfl⟩)
theorem many_D (a b w q : Int) (k fl : Nat) (hp : List Blk) (h : decide (a ≥ b) = false) (h2 : decide (w < 1) = false) (h3 : (bif U w == 0 then none else some (AV.int .u64 (U ((U (U (U b - U a) - 1)).tdiv (U w))))) = some (.int .u64 q)) (h4 : decide (U (q + 1) > 64) = false) :
    evCall cfg (k + 1) fl 9 [.int .i64 a, .int .i64 b, .int .i64 w] hp = some (.tup [.int .i64 (IntKind.i64.wrap (U (q + 1))), .int .i64 0], hp) :=
  evP [(1, 2, .val (.bool false)), (1, 5, .val (.bool false)), (3, 8, .val (.int .u64 q)), (4, 1, .val (.bool false))]
    (φs := [some (AV.bool (decide (a ≥ b))) = some (.bool false), some (AV.bool (decide (w < 1))) = some (.bool false), (bif U w == 0 then none else some (AV.int .u64 (U ((U (U (U b - U a) - 1)).tdiv (U w))))) = some (.int .u64 q), some (AV.bool (decide (U (q + 1) > 64))) = some (.bool false)])
    (by kernel_rfl) (by rw [h, h2, h4]; exact ⟨rfl, rfl, h3, rfl⟩)

theorem quo_eq {a b w : Int} (ha : R64 a) (hb : R64 b) (hw : R64 w) (h : a < b) (h1 : 1 ≤ w) : (bif U w == 0 then none else some (AV.int .u64 (U ((U (U (U b - U a) - 1)).tdiv (U w))))) = some (.int .u64 ((b - a - 1) / w)) := by
  obtain ⟨ha1, ha2⟩ := ha
  obtain ⟨hb1, hb2⟩ := hb
  obtain ⟨hw1, hw2⟩ := hw
  have e1 : U w = w := by rw [u_eq]; omega
  have e2 : U (U (U b - U a) - 1) = b - a - 1 := by simp only [u_eq]; omega
  have hne : (U w == 0) = false := by rw [e1]; simp; omega
  rw [hne, cond_false rfl, e1, e2, Int.tdiv_eq_ediv_of_nonneg (by omega)]
  have l1 : 0 ≤ (b - a - 1) / w := Int.ediv_nonneg (by omega) (by omega)
  have l2 : (b - a - 1) / w ≤ b - a - 1 := Int.ediv_le_self _ (by omega)
  rw [u_eq, Int.emod_eq_of_lt l1 (by omega)]

theorem many_bad {a b w : Int} (ha : R64 a) (hb : R64 b) (hw : R64 w) (k fl : Nat) (hp : List Blk) (h : bad a b w) : evCall cfg (k + 1) fl 9 [.int .i64 a, .int .i64 b, .int .i64 w] hp = some (.tup [.int .i64 0, .int .i64 3], hp) := by
  by_cases h1 : a ≥ b
  · exact many_A a b w k fl hp (by simpa using h1)
  by_cases h2 : w < 1
  · exact many_B a b w k fl hp (by simpa using h1) (by simpa using h2)
  have h3 : many a b w > 64 := by rcases h with h | h | h <;> first | exact absurd h h1 | exact absurd h h2 | exact h
  refine many_C a b w ((b - a - 1) / w) k fl hp (by simpa using h1) (by simpa using h2) (quo_eq ha hb hw (by omega) (by omega)) ?_
  unfold many at h3
  obtain ⟨ha1, ha2⟩ := ha
  obtain ⟨hb1, hb2⟩ := hb
  have l2 : (b - a - 1) / w ≤ b - a - 1 := Int.ediv_le_self _ (by omega)
  rw [u_eq]
  simp only [decide_eq_true_eq]
  omega

theorem many_good {a b w : Int} (ha : R64 a) (hb : R64 b) (hw : R64 w) (k fl : Nat) (hp : List Blk) (h : ¬ bad a b w) : evCall cfg (k + 1) fl 9 [.int .i64 a, .int .i64 b, .int .i64 w] hp = some (.tup [.int .i64 (many a b w), .int .i64 0], hp) := by
  unfold bad at h
  have h1 : ¬ a ≥ b := fun x => h (.inl x)
  have h2 : ¬ w < 1 := fun x => h (.inr (.inl x))
  have h3 : ¬ many a b w > 64 := fun x => h (.inr (.inr x))
  have l1 : 0 ≤ (b - a - 1) / w := Int.ediv_nonneg (by omega) (by omega)
  have h3' : ¬ (b - a - 1) / w + 1 > 64 := h3
  have e : U ((b - a - 1) / w + 1) = many a b w := by rw [u_eq]; unfold many; omega
  have := many_D a b w ((b - a - 1) / w) k fl hp (by simpa using h1) (by simpa using h2) (quo_eq ha hb hw (by omega) (by omega)) (by rw [e]; simpa using h3)
  rw [this, e]
  have e2 : IntKind.i64.wrap (many a b w) = many a b w := by rw [i_eq]; unfold many at h3 ⊢; split <;> omega
  rw [e2]

/-- the pieces of what is no range, or too many -/
theorem all_bad {a b w : Int} (ha : R64 a) (hb : R64 b) (hw : R64 w) (c : Bool) (k fl : Nat) (hp : List Blk) (h : bad a b w) : evCall cfg (k + 2) fl 11 [.int .i64 a, .int .i64 b, .int .i64 w, .bool c] hp = some (.tup [.nilS, .int .i64 3], hp) :=
  evP [(1, 3, .res (.tup [.int .i64 0, .int .i64 3]) hp)] (φs := [evCall cfg (k + 1) hp.length 9 [.int .i64 a, .int .i64 b, .int .i64 w] hp = some (.tup [.int .i64 0, .int .i64 3], hp)]) (by kernel_rfl) (many_bad ha hb hw k _ hp h)
end Go.Proofs.Ytfhemdhgpcpfaaa.E.S1
