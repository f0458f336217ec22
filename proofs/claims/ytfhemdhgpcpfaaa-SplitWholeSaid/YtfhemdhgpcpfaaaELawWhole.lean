/- archivistlaw17.SplitWhole answers true at every input. -/
import Derived.Test.YtfhemdhgpcpfaaaEWholeLoop
set_option linter.unusedSimpArgs false
set_option linter.unusedVariables false
namespace Go.Proofs.Ytfhemdhgpcpfaaa.E.S1
open Go Go.Proofs E

abbrev WW (b : Int) : Int := J (J b + 1)
abbrev NN (c : Int) : Int := J (1 + J (c.tmod 64))
abbrev FF (a : Int) : Int := a.fdiv (2 ^ 2)
abbrev TT (a b c r : Int) : Int := J (J (FF a + J (NN c * WW b)) - r)

theorem whole_path (a b c d r : Int) (P Q : List AV) (hex : evCall cfg 1000 0 8 [] [] = some (.bool true, []))
    (h0 : (bif WW b == 0 then none else some (AV.int .i64 ((J d).tmod (WW b)))) = some (.int .i64 r))
    (h1 : evCall cfg 1000 0 11 [.int .i64 (FF a), .int .i64 (TT a b c r), .int .i64 (WW b), .bool true] [] = some (.tup [.lit 2 .sealed P, .int .i64 0], []))
    (h2 : evCall cfg 1000 0 11 [.int .i64 (FF a), .int .i64 (TT a b c r), .int .i64 (WW b), .bool false] [] = some (.tup [.lit 2 .sealed Q, .int .i64 0], []))
    (h3 : evCall cfg 1000 0 9 [.int .i64 (FF a), .int .i64 (TT a b c r), .int .i64 (WW b)] [] = some (.tup [.int .i64 (NN c), .int .i64 0], []))
    (h4 : ((P.length : Int) != NN c) = false) (h5 : ((Q.length : Int) != (P.length : Int)) = false) (h6 : (NN c != NN c) = false)
    (h7 : loopN cfg (evCall cfg 1000 0) 0 4 1000 (bodyOf Try.f4 15) 15 1000 (HW (WW b) (TT a b c r) P Q (FF a) 0) = some (.exit 0, ⟨slots 170 [(9, .bool true), (12, .int .i64 (TT a b c r)), (19, .int .i64 (TT a b c r))], []⟩))
    (h8 : (TT a b c r == TT a b c r) = true) :
    evCall cfg 1001 0 4 [.int .i64 a, .int .u32 b, .int .u8 c, .int .u32 d] [] = some (.bool true, []) :=
  evP (k := 1000) [(1, 0, .res (.bool true) []), (7, 8, .val (.int .i64 r)), (8, 3, .res (.tup [.lit 2 .sealed P, .int .i64 0]) []), (9, 3, .res (.tup [.lit 2 .sealed Q, .int .i64 0]) []), (10, 3, .res (.tup [.int .i64 (NN c), .int .i64 0]) []),
      (11, 14, .val (.bool false)), (11, 21, .val (.bool false)), (11, 26, .val (.bool false)), (15, 1000000, .loop (.exit 0) ⟨slots 170 [(9, .bool true), (12, .int .i64 (TT a b c r)), (19, .int .i64 (TT a b c r))], []⟩), (20, 4, .val (.bool true))]
    (φs := [evCall cfg 1000 0 8 [] [] = some (.bool true, []),
      (bif WW b == 0 then none else some (AV.int .i64 ((J d).tmod (WW b)))) = some (.int .i64 r),
      evCall cfg 1000 0 11 [.int .i64 (FF a), .int .i64 (TT a b c r), .int .i64 (WW b), .bool true] [] = some (.tup [.lit 2 .sealed P, .int .i64 0], []),
      evCall cfg 1000 0 11 [.int .i64 (FF a), .int .i64 (TT a b c r), .int .i64 (WW b), .bool false] [] = some (.tup [.lit 2 .sealed Q, .int .i64 0], []),
      evCall cfg 1000 0 9 [.int .i64 (FF a), .int .i64 (TT a b c r), .int .i64 (WW b)] [] = some (.tup [.int .i64 (NN c), .int .i64 0], []),
      some (AV.bool ((P.length : Int) != NN c)) = some (.bool false), some (AV.bool ((Q.length : Int) != (P.length : Int))) = some (.bool false), some (AV.bool (NN c != NN c)) = some (.bool false),
      loopN cfg (evCall cfg 1000 0) 0 4 1000 (bodyOf Try.f4 15) 15 1000 (HW (WW b) (TT a b c r) P Q (FF a) 0) = some (.exit 0, ⟨slots 170 [(9, .bool true), (12, .int .i64 (TT a b c r)), (19, .int .i64 (TT a b c r))], []⟩),
      some (AV.bool (TT a b c r == TT a b c r)) = some (.bool true)])
    (by kernel_rfl) (by rw [h4, h5, h6, h8]; exact ⟨hex, h0, h1, h2, h3, rfl, rfl, rfl, h7, rfl⟩)

theorem whole_law (a b c d : Int) (ha : R64 a) (hb : 0 ≤ b ∧ b ≤ 4294967295) (hc : 0 ≤ c ∧ c ≤ 255) (hd : 0 ≤ d ∧ d ≤ 4294967295) :
    evCall cfg 1001 0 4 [.int .i64 a, .int .u32 b, .int .u8 c, .int .u32 d] [] = some (.bool true, []) := by
  obtain ⟨ha1, ha2⟩ := ha
  have eb : J b = b := wrap_in ⟨by omega, by omega⟩
  have ed : J d = d := wrap_in ⟨by omega, by omega⟩
  have ew : WW b = b + 1 := by unfold WW; rw [eb]; exact wrap_in ⟨by omega, by omega⟩
  have ec : c.tmod 64 = c % 64 := Int.tmod_eq_emod_of_nonneg hc.1
  have en : NN c = 1 + c % 64 := by
    unfold NN; rw [ec, show J (c % 64) = c % 64 from wrap_in ⟨by omega, by omega⟩]; exact wrap_in ⟨by omega, by omega⟩
  have ef : FF a = a / 4 := by unfold FF; rw [Int.fdiv_eq_ediv_of_nonneg _ (by decide)]; rfl
  obtain ⟨w, hw⟩ : ∃ w, w = b + 1 := ⟨_, rfl⟩
  obtain ⟨n, hn⟩ : ∃ n : Nat, (n : Int) + 1 = 1 + c % 64 := ⟨(c % 64).toNat, by omega⟩
  obtain ⟨f, hf⟩ : ∃ f, f = a / 4 := ⟨_, rfl⟩
  obtain ⟨r, hr⟩ : ∃ r, r = d % w := ⟨_, rfl⟩
  have hw1 : 1 ≤ w := by omega
  have hr1 : 0 ≤ r := by rw [hr]; exact Int.emod_nonneg _ (by omega)
  have hr2 : r < w := by rw [hr]; exact Int.emod_lt_of_pos _ (by omega)
  have hnw : 0 ≤ (n : Int) * w := Int.mul_nonneg (by omega) (by omega)
  have hn64 : (n : Int) ≤ 63 := by omega
  have hnw2 : (n : Int) * w ≤ 63 * w := Int.mul_le_mul_of_nonneg_right hn64 (by omega)
  have exp : ((n : Int) + 1) * w = n * w + w := by rw [Int.add_mul]; omega
  have h0 : (bif WW b == 0 then none else some (AV.int .i64 ((J d).tmod (WW b)))) = some (.int .i64 r) := by
    rw [ew, ed, ← hw]
    have : (w == 0) = false := by simp; omega
    rw [this, cond_false rfl, Int.tmod_eq_emod_of_nonneg hd.1, ← hr]
  have et : TT a b c r = f + n * w + w - r := by
    unfold TT
    rw [ef, en, ew, ← hn, ← hw, ← hf, exp]
    rw [show J ((n : Int) * w + w) = n * w + w from wrap_in ⟨by omega, by omega⟩, show J (f + ((n : Int) * w + w)) = f + (n * w + w) from wrap_in ⟨by omega, by omega⟩]
    rw [show J (f + ((n : Int) * w + w) - r) = f + (n * w + w) - r from wrap_in ⟨by omega, by omega⟩]
    omega
  obtain ⟨t, ht⟩ : ∃ t, t = f + n * w + w - r := ⟨_, rfl⟩
  have rf : R64 f := ⟨by omega, by omega⟩
  have rt : R64 t := ⟨by omega, by omega⟩
  have rw' : R64 w := ⟨by omega, by omega⟩
  have hm : many f t w = n + 1 := by
    unfold many
    have : (t - f - 1) / w = n := by
      apply Int.le_antisymm
      · have : (t - f - 1) / w < n + 1 := Int.ediv_lt_of_lt_mul (by omega) (by rw [exp]; omega)
        omega
      · exact Int.le_ediv_of_mul_le (by omega) (by omega)
    omega
  have hg : ¬ bad f t w := by unfold bad; rw [hm]; omega
  have htn : (many f t w).toNat = n + 1 := by omega
  have hP := pcs_get t w hw1 n f (by omega) (by rw [exp]; omega)
  have hlen : (pcs f t w (n + 1)).length = n + 1 := pcs_len t w (n + 1) f
  have h1 := all_good rf rt rw' hg true 998 0 [] (by omega)
  have h2 := all_good rf rt rw' hg false 998 0 [] (by omega)
  have h3 := many_good rf rt rw' 999 0 [] hg
  rw [hm] at h3
  simp only [allL, htn, if_true, Bool.false_eq_true, if_false] at h1 h2
  have mul_le : ∀ i : Nat, i ≤ n → (i : Int) * w ≤ n * w := fun i hi => Int.mul_le_mul_of_nonneg_right (by omega) (by omega)
  have mul_s : ∀ i : Nat, ((i + 1 : Nat) : Int) * w = i * w + w := fun i => by rw [Int.natCast_add, Int.add_mul]; omega
  have mul_0 : ∀ i : Nat, 0 ≤ (i : Int) * w := fun i => Int.mul_nonneg (by omega) (by omega)
  have hp : ∀ i, i < n + 1 → pt f t w (n + 1) i < pt f t w (n + 1) (i + 1) ∧ pt f t w (n + 1) (i + 1) ≤ pt f t w (n + 1) i + w ∧ R64 (pt f t w (n + 1) i + w) ∧ (i + 1 < n + 1 → pt f t w (n + 1) (i + 1) = pt f t w (n + 1) i + w) := fun i hi => by
    have k1 := mul_le i (by omega)
    have k0 := mul_0 i
    have k2 := mul_s i
    unfold pt
    rw [if_pos hi]
    by_cases hl : i + 1 < n + 1
    · rw [if_pos hl, k2]
      exact ⟨by omega, by omega, ⟨by omega, by omega⟩, fun _ => by omega⟩
    · rw [if_neg hl]
      have : i = n := by omega
      subst this
      exact ⟨by omega, by omega, ⟨by omega, by omega⟩, fun h => absurd h hl⟩
  have hloop := whole_loop w t (pcs f t w (n + 1)) (pt f t w (n + 1)) (by omega) (fun i hi => hP i (by omega)) (fun i hi => (hp i (by omega)).1) (fun i hi => (hp i (by omega)).2.1) (fun i hi => (hp i (by omega)).2.2.2 (by omega)) (fun i hi => (hp i (by omega)).2.2.1)
    1000 (n + 1) 0 (1000 - n - 2) (by omega)
  rw [show n + 1 + 1 + (1000 - n - 2) = 1000 by omega, hlen] at hloop
  have p0 : pt f t w (n + 1) 0 = f := by unfold pt; rw [if_pos (by omega)]; simp
  have pn : pt f t w (n + 1) (n + 1) = t := by unfold pt; rw [if_neg (by omega)]
  rw [p0, pn] at hloop
  refine whole_path a b c d r ((pcs f t w (n + 1)).map sp) ((pcs f t w (n + 1)).reverse.map sp) ex h0 ?_ ?_ ?_ ?_ ?_ ?_ ?_ ?_
  · rw [ef, et, ew, ← hf, ← hw, ← ht]; exact h1
  · rw [ef, et, ew, ← hf, ← hw, ← ht]; exact h2
  · rw [ef, et, ew, en, ← hf, ← hw, ← ht, ← hn]; exact h3
  · rw [en, ← hn]; simp [hlen]
  · simp
  · simp
  · rw [ef, et, ew, ← hf, ← hw, ← ht]; exact hloop
  · simp
end Go.Proofs.Ytfhemdhgpcpfaaa.E.S1
