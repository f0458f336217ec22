/- The document's Many, All and Behind. -/
import Derived.Test.YtfhemdhgpcpfaaaEBehind
import Derived.Test.YtfhemdhgpcpfaaaEWholeLoop
set_option linter.unusedSimpArgs false
set_option linter.unusedVariables false
namespace Go.Proofs.Ytfhemdhgpcpfaaa.E.S1
open Go Go.Proofs E

abbrev QQ (a b w : Int) : Option AV := bif U w == 0 then none else some (AV.int .u64 (U ((U (U b - U a)).tdiv (U w))))
abbrev RR (a b w : Int) : Option AV := bif U w == 0 then none else some (AV.int .u64 ((U (U b - U a)).tmod (U w)))
theorem rm_A (a b w : Int) (k fl : Nat) (hp : List Blk) (h : decide (a ≥ b) = true) : evCall cfg (k + 1) fl 10 [.int .i64 a, .int .i64 b, .int .i64 w] hp = some (.tup [.int .i64 0, .int .i64 3], hp) :=
  evP [(1, 2, .val (.bool true))] (φs := [some (AV.bool (decide (a ≥ b))) = some (.bool true)]) (by kernel_rfl) (by rw [h]; rfl)
theorem rm_B (a b w : Int) (k fl : Nat) (hp : List Blk) (h : decide (a ≥ b) = false) (h2 : decide (w < 1) = true) : evCall cfg (k + 1) fl 10 [.int .i64 a, .int .i64 b, .int .i64 w] hp = some (.tup [.int .i64 0, .int .i64 3], hp) :=
  evP [(1, 2, .val (.bool false)), (1, 5, .val (.bool true))] (φs := [some (AV.bool (decide (a ≥ b))) = some (.bool false), some (AV.bool (decide (w < 1))) = some (.bool true)]) (by kernel_rfl) (by rw [h, h2]; exact ⟨rfl, rfl⟩)
theorem rm_C (a b w q r : Int) (k fl : Nat) (hp : List Blk) (h : decide (a ≥ b) = false) (h2 : decide (w < 1) = false) (h3 : QQ a b w = some (.int .u64 q)) (h4 : RR a b w = some (.int .u64 r)) (h5 : decide (r > 0) = true) (h6 : decide (U (q + 1) > 64) = true) :
    evCall cfg (k + 1) fl 10 [.int .i64 a, .int .i64 b, .int .i64 w] hp = some (.tup [.int .i64 0, .int .i64 3], hp) :=
  evP [(1, 2, .val (.bool false)), (1, 5, .val (.bool false)), (4, 3, .val (.int .u64 q)), (5, 3, .val (.int .u64 r)), (5, 4, .val (.bool true)), (7, 1, .val (.bool true))]
    (φs := [some (AV.bool (decide (a ≥ b))) = some (.bool false), some (AV.bool (decide (w < 1))) = some (.bool false), QQ a b w = some (.int .u64 q), RR a b w = some (.int .u64 r), some (AV.bool (decide (r > 0))) = some (.bool true), some (AV.bool (decide (U (q + 1) > 64))) = some (.bool true)])
    (by kernel_rfl) (by rw [h, h2, h5, h6]; exact ⟨rfl, rfl, h3, h4, rfl, rfl⟩)
theorem rm_D (a b w q r : Int) (k fl : Nat) (hp : List Blk) (h : decide (a ≥ b) = false) (h2 : decide (w < 1) = false) (h3 : QQ a b w = some (.int .u64 q)) (h4 : RR a b w = some (.int .u64 r)) (h5 : decide (r > 0) = true) (h6 : decide (U (q + 1) > 64) = false) :
    evCall cfg (k + 1) fl 10 [.int .i64 a, .int .i64 b, .int .i64 w] hp = some (.tup [.int .i64 (IntKind.i64.wrap (U (q + 1))), .int .i64 0], hp) :=
  evP [(1, 2, .val (.bool false)), (1, 5, .val (.bool false)), (4, 3, .val (.int .u64 q)), (5, 3, .val (.int .u64 r)), (5, 4, .val (.bool true)), (7, 1, .val (.bool false))]
    (φs := [some (AV.bool (decide (a ≥ b))) = some (.bool false), some (AV.bool (decide (w < 1))) = some (.bool false), QQ a b w = some (.int .u64 q), RR a b w = some (.int .u64 r), some (AV.bool (decide (r > 0))) = some (.bool true), some (AV.bool (decide (U (q + 1) > 64))) = some (.bool false)])
    (by kernel_rfl) (by rw [h, h2, h5, h6]; exact ⟨rfl, rfl, h3, h4, rfl, rfl⟩)
theorem rm_E (a b w q r : Int) (k fl : Nat) (hp : List Blk) (h : decide (a ≥ b) = false) (h2 : decide (w < 1) = false) (h3 : QQ a b w = some (.int .u64 q)) (h4 : RR a b w = some (.int .u64 r)) (h5 : decide (r > 0) = false) (h6 : decide (q > 64) = true) :
    evCall cfg (k + 1) fl 10 [.int .i64 a, .int .i64 b, .int .i64 w] hp = some (.tup [.int .i64 0, .int .i64 3], hp) :=
  evP [(1, 2, .val (.bool false)), (1, 5, .val (.bool false)), (4, 3, .val (.int .u64 q)), (5, 3, .val (.int .u64 r)), (5, 4, .val (.bool false)), (7, 1, .val (.bool true))]
    (φs := [some (AV.bool (decide (a ≥ b))) = some (.bool false), some (AV.bool (decide (w < 1))) = some (.bool false), QQ a b w = some (.int .u64 q), RR a b w = some (.int .u64 r), some (AV.bool (decide (r > 0))) = some (.bool false), some (AV.bool (decide (q > 64))) = some (.bool true)])
    (by kernel_rfl) (by rw [h, h2, h5, h6]; exact ⟨rfl, rfl, h3, h4, rfl, rfl⟩)
theorem rm_F (a b w q r : Int) (k fl : Nat) (hp : List Blk) (h : decide (a ≥ b) = false) (h2 : decide (w < 1) = false) (h3 : QQ a b w = some (.int .u64 q)) (h4 : RR a b w = some (.int .u64 r)) (h5 : decide (r > 0) = false) (h6 : decide (q > 64) = false) :
    evCall cfg (k + 1) fl 10 [.int .i64 a, .int .i64 b, .int .i64 w] hp = some (.tup [.int .i64 (IntKind.i64.wrap q), .int .i64 0], hp) :=
  evP [(1, 2, .val (.bool false)), (1, 5, .val (.bool false)), (4, 3, .val (.int .u64 q)), (5, 3, .val (.int .u64 r)), (5, 4, .val (.bool false)), (7, 1, .val (.bool false))]
    (φs := [some (AV.bool (decide (a ≥ b))) = some (.bool false), some (AV.bool (decide (w < 1))) = some (.bool false), QQ a b w = some (.int .u64 q), RR a b w = some (.int .u64 r), some (AV.bool (decide (r > 0))) = some (.bool false), some (AV.bool (decide (q > 64))) = some (.bool false)])
    (by kernel_rfl) (by rw [h, h2, h5, h6]; exact ⟨rfl, rfl, h3, h4, rfl, rfl⟩)

/-- the document's way to how many there are -/
theorem qr {a b w : Int} (ha : R64 a) (hb : R64 b) (hw : R64 w) (h : a < b) (h1 : 1 ≤ w) : ∃ q r : Int, QQ a b w = some (.int .u64 q) ∧ RR a b w = some (.int .u64 r) ∧ 0 ≤ q ∧ q + r ≤ 18446744073709551615 ∧ 0 ≤ r ∧ ((0 < r ∧ many a b w = q + 1) ∨ (r = 0 ∧ many a b w = q)) := by
  obtain ⟨ha1, ha2⟩ := ha
  obtain ⟨hb1, hb2⟩ := hb
  obtain ⟨hw1, hw2⟩ := hw
  have e1 : U w = w := by rw [u_eq]; omega
  have e2 : U (U b - U a) = b - a := by simp only [u_eq]; omega
  have hne : (U w == 0) = false := by rw [e1]; simp; omega
  have l1 : 0 ≤ (b - a) / w := Int.ediv_nonneg (by omega) (by omega)
  have l2 : (b - a) / w ≤ b - a := Int.ediv_le_self _ (by omega)
  have r1 : 0 ≤ (b - a) % w := Int.emod_nonneg _ (by omega)
  have r2 : (b - a) % w < w := Int.emod_lt_of_pos _ (by omega)
  have hqr := Int.emod_add_mul_ediv (b - a) w
  generalize hq : (b - a) / w = q at *
  generalize hr : (b - a) % w = r at *
  have hwq : w * q = q * w := Int.mul_comm _ _
  have hqw : q ≤ q * w := by
    have h3 : 0 ≤ q * (w - 1) := Int.mul_nonneg l1 (by omega)
    rw [Int.mul_sub] at h3; omega
  refine ⟨q, r, ?_, ?_, l1, by omega, r1, ?_⟩
  · unfold QQ
    rw [hne, cond_false rfl, e1, e2, Int.tdiv_eq_ediv_of_nonneg (by omega), hq, u_eq, Int.emod_eq_of_lt l1 (by omega)]
  · unfold RR
    rw [hne, cond_false rfl, e1, e2, Int.tmod_eq_emod_of_nonneg (by omega), hr]
  · unfold many
    by_cases h0 : 0 < r
    · left
      refine ⟨h0, ?_⟩
      rw [show b - a - 1 = r - 1 + q * w by omega, Int.add_mul_ediv_right _ _ (by omega), Int.ediv_eq_zero_of_lt (by omega) (by omega)]; omega
    · right
      refine ⟨by omega, ?_⟩
      have ex : (q - 1) * w = q * w - w := by rw [Int.sub_mul]; omega
      rw [show b - a - 1 = w - 1 + (q - 1) * w by omega, Int.add_mul_ediv_right _ _ (by omega), Int.ediv_eq_zero_of_lt (by omega) (by omega)]; omega

theorem rm_bad {a b w : Int} (ha : R64 a) (hb : R64 b) (hw : R64 w) (k fl : Nat) (hp : List Blk) (h : bad a b w) : evCall cfg (k + 1) fl 10 [.int .i64 a, .int .i64 b, .int .i64 w] hp = some (.tup [.int .i64 0, .int .i64 3], hp) := by
  by_cases h1 : a ≥ b
  · exact rm_A a b w k fl hp (by simpa using h1)
  by_cases h2 : w < 1
  · exact rm_B a b w k fl hp (by simpa using h1) (by simpa using h2)
  have h3 : many a b w > 64 := by rcases h with h | h | h <;> first | exact absurd h h1 | exact absurd h h2 | exact h
  obtain ⟨q, r, g1, g2, g3, g4, g5, g6⟩ := qr ha hb hw (by omega) (by omega)
  rcases g6 with ⟨g7, g8⟩ | ⟨g7, g8⟩
  · exact rm_C a b w q r k fl hp (by simpa using h1) (by simpa using h2) g1 g2 (by simpa using g7) (by rw [u_eq]; simp only [decide_eq_true_eq]; omega)
  · exact rm_E a b w q r k fl hp (by simpa using h1) (by simpa using h2) g1 g2 (by simp; omega) (by simp only [decide_eq_true_eq]; omega)

theorem rm_good {a b w : Int} (ha : R64 a) (hb : R64 b) (hw : R64 w) (k fl : Nat) (hp : List Blk) (h : ¬ bad a b w) : evCall cfg (k + 1) fl 10 [.int .i64 a, .int .i64 b, .int .i64 w] hp = some (.tup [.int .i64 (many a b w), .int .i64 0], hp) := by
  unfold bad at h
  have h1 : ¬ a ≥ b := fun x => h (.inl x)
  have h2 : ¬ w < 1 := fun x => h (.inr (.inl x))
  have h3 : ¬ many a b w > 64 := fun x => h (.inr (.inr x))
  obtain ⟨q, r, g1, g2, g3, g4, g5, g6⟩ := qr ha hb hw (by omega) (by omega)
  rcases g6 with ⟨g7, g8⟩ | ⟨g7, g8⟩
  · have eu : U (q + 1) = q + 1 := by rw [u_eq]; omega
    rw [rm_D a b w q r k fl hp (by simpa using h1) (by simpa using h2) g1 g2 (by simpa using g7) (by rw [eu]; simp only [decide_eq_false_iff_not]; omega), eu, g8, wrap_in ⟨by omega, by omega⟩]
  · rw [rm_F a b w q r k fl hp (by simpa using h1) (by simpa using h2) g1 g2 (by simp; omega) (by simp only [decide_eq_false_iff_not]; omega), g8, wrap_in ⟨by omega, by omega⟩]

theorem rall_bad {a b w : Int} (ha : R64 a) (hb : R64 b) (hw : R64 w) (c : Bool) (k fl : Nat) (hp : List Blk) (h : bad a b w) : evCall cfg (k + 2) fl 12 [.int .i64 a, .int .i64 b, .int .i64 w, .bool c] hp = some (.tup [.nilS, .int .i64 3], hp) :=
  evP [(1, 3, .res (.tup [.int .i64 0, .int .i64 3]) hp)] (φs := [evCall cfg (k + 1) hp.length 10 [.int .i64 a, .int .i64 b, .int .i64 w] hp = some (.tup [.int .i64 0, .int .i64 3], hp)]) (by kernel_rfl) (rm_bad ha hb hw k _ hp h)

/-! All -/
def HQ (f t w : Int) (asc : Bool) (out : AV) (n i : Int) (hp : List Blk) : St := ⟨slots 69 [(0, .int .i64 f), (1, .int .i64 t), (2, .int .i64 w), (3, .bool asc), (10, .int .i64 n), (12, out), (13, .int .i64 i)], hp⟩
noncomputable abbrev LQ (k fl : Nat) := loopN cfg (evCall cfg k fl) fl 12 k (bodyOf Try.f12 6) 6
abbrev K64 (f k w : Int) : Int := IntKind.i64.wrap (U (U f + U (U k * U w)))
abbrev kk (asc : Bool) (n i : Int) : Int := bif asc then i else IntKind.i64.wrap (IntKind.i64.wrap (n - 1) - i)
theorem rall_end (f t w n i : Int) (asc : Bool) (out : AV) (hp : List Blk) (k fl m : Nat) (h : decide (i < n) = false) :
    LQ k fl (m + 1) (HQ f t w asc out n i hp) = some (.exit 0, ⟨slots 69 [(12, out)], hp⟩) :=
  loop_exit (π := [(6, 2, .val (.bool false))]) (φs := [some (AV.bool (decide (i < n))) = some (.bool false)]) (by kernel_rfl) (fun h => by cases h) (by rw [h]; rfl)
/-- a piece, by its number -/
abbrev pk (f t w n k : Int) : Int × Int := (K64 f k w, if k < IntKind.i64.wrap (n - 1) then K64 f (IntKind.i64.wrap (k + 1)) w else t)
theorem rall_step (f t w n i : Int) (asc : Bool) (out out' : AV) (hp hp' : List Blk) (k fl m : Nat) (h : decide (i < n) = true)
    (ha : ∀ ts, builtinE cfg fl false ⟨ts, hp⟩ .append [31, 31] [out, .lit 2 .exact [sp (pk f t w n (kk asc n i))]] = some ⟨.v out', ts, hp', .fw⟩) :
    LQ k fl (m + 1) (HQ f t w asc out n i hp) = LQ k fl m (HQ f t w asc out' n (IntKind.i64.wrap (i + 1)) hp') := by
  cases asc with
  | true =>
    by_cases hc : i < IntKind.i64.wrap (n - 1)
    · exact loop_step (π := [(6, 2, .val (.bool true)), (12, 3, .val (.bool true)), (14, 3, .mem out' hp' .fw)])
        (φs := [some (AV.bool (decide (i < n))) = some (.bool true), some (AV.bool (decide (i < IntKind.i64.wrap (n - 1)))) = some (.bool true), ∀ ts, builtinE cfg fl false ⟨ts, hp⟩ .append [31, 31] [out, .lit 2 .exact [.agg [.int .i64 (K64 f i w), .int .i64 (K64 f (IntKind.i64.wrap (i + 1)) w)]]] = some ⟨.v out', ts, hp', .fw⟩])
        (by kernel_rfl) (by
          rw [h, decide_eq_true hc]
          refine ⟨rfl, rfl, ?_⟩
          simp only [kk, cond_true rfl, pk, if_pos hc] at ha
          exact ha)
    · exact loop_step (π := [(6, 2, .val (.bool true)), (12, 3, .val (.bool false)), (14, 3, .mem out' hp' .fw)])
        (φs := [some (AV.bool (decide (i < n))) = some (.bool true), some (AV.bool (decide (i < IntKind.i64.wrap (n - 1)))) = some (.bool false), ∀ ts, builtinE cfg fl false ⟨ts, hp⟩ .append [31, 31] [out, .lit 2 .exact [.agg [.int .i64 (K64 f i w), .int .i64 t]]] = some ⟨.v out', ts, hp', .fw⟩])
        (by kernel_rfl) (by
          rw [h, decide_eq_false hc]
          refine ⟨rfl, rfl, ?_⟩
          simp only [kk, cond_true rfl, pk, if_neg hc] at ha
          exact ha)
  | false =>
    by_cases hc : IntKind.i64.wrap (IntKind.i64.wrap (n - 1) - i) < IntKind.i64.wrap (n - 1)
    · exact loop_step (π := [(6, 2, .val (.bool true)), (12, 3, .val (.bool true)), (14, 3, .mem out' hp' .fw)])
        (φs := [some (AV.bool (decide (i < n))) = some (.bool true), some (AV.bool (decide (IntKind.i64.wrap (IntKind.i64.wrap (n - 1) - i) < IntKind.i64.wrap (n - 1)))) = some (.bool true), ∀ ts, builtinE cfg fl false ⟨ts, hp⟩ .append [31, 31] [out, .lit 2 .exact [.agg [.int .i64 (K64 f (IntKind.i64.wrap (IntKind.i64.wrap (n - 1) - i)) w), .int .i64 (K64 f (IntKind.i64.wrap (IntKind.i64.wrap (IntKind.i64.wrap (n - 1) - i) + 1)) w)]]] = some ⟨.v out', ts, hp', .fw⟩])
        (by kernel_rfl) (by
          rw [h, decide_eq_true hc]
          refine ⟨rfl, rfl, ?_⟩
          simp only [kk, cond_false rfl, pk, if_pos hc] at ha
          exact ha)
    · exact loop_step (π := [(6, 2, .val (.bool true)), (12, 3, .val (.bool false)), (14, 3, .mem out' hp' .fw)])
        (φs := [some (AV.bool (decide (i < n))) = some (.bool true), some (AV.bool (decide (IntKind.i64.wrap (IntKind.i64.wrap (n - 1) - i) < IntKind.i64.wrap (n - 1)))) = some (.bool false), ∀ ts, builtinE cfg fl false ⟨ts, hp⟩ .append [31, 31] [out, .lit 2 .exact [.agg [.int .i64 (K64 f (IntKind.i64.wrap (IntKind.i64.wrap (n - 1) - i)) w), .int .i64 t]]] = some ⟨.v out', ts, hp', .fw⟩])
        (by kernel_rfl) (by
          rw [h, decide_eq_false hc]
          refine ⟨rfl, rfl, ?_⟩
          simp only [kk, cond_false rfl, pk, if_neg hc] at ha
          exact ha)
end Go.Proofs.Ytfhemdhgpcpfaaa.E.S1
