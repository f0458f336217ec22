/- split.All at every range, and slices.Reverse as a call. -/
import Derived.Test.YtfhemdhgpcpfaaaERev
set_option linter.unusedSimpArgs false
set_option linter.unusedVariables false
namespace Go.Proofs.Ytfhemdhgpcpfaaa.E.S1
open Go Go.Proofs E

theorem rev_ev (l : List (Int × Int)) (hl : l.length ≤ 64) (b k fl : Nat) (hfl : fl ≤ b) (hp : List Blk) (hb : hp[b]? = some (.cells (cel l))) (hk : 100 ≤ k) (h0 : fl ≤ hp.length) :
    ∃ hp', evCall cfg (k + 1) fl 15 [.arr 2 b 0 l.length] hp = some (.tup [], hp') ∧ hp'[b]? = some (.cells (cel l.reverse)) ∧ HPre fl hp hp' ∧ hp'.length = hp.length := by
  obtain ⟨hp', h1, h2, h3, h4⟩ := rev_loop l (by omega) b k fl hfl 64 0 l hp (k - 65) ⟨rfl, fun i hi => by rw [if_neg (by omega)]⟩ hb h0 (by omega)
  rw [show 64 + 1 + (k - 65) = k by omega] at h1
  refine ⟨hp', ?_, h2, h3, h4⟩
  have e : IntKind.i64.wrap ((l.length : Int) - 1) = (l.length : Int) - 1 - ((0 : Nat) : Int) := by rw [wrap_in ⟨by omega, by omega⟩]; omega
  exact evP [(1, 1000000, .loop (.exit 0) ⟨slots 28 [], hp'⟩)] (φs := [loopN cfg (evCall cfg k fl) fl 15 k (bodyOf Try.f15 1) 1 k (HR b l.length 0 (IntKind.i64.wrap ((l.length : Int) - 1)) hp) = some (.exit 0, ⟨slots 28 [], hp'⟩)]) (by kernel_rfl)
    (by rw [e]; exact h1)

theorem shut_sps (hp : List Blk) (n d : Nat) : ∀ l : List (Int × Int), mapO (shutV hp n (d + 2)) (l.map sp) = some (l.map sp)
  | [] => rfl
  | p :: l => by
    have h : shutV hp n (d + 2) (sp p) = some (sp p) := rfl
    simp only [List.map_cons, mapO, h, shut_sps hp n d l]

theorem shut_row {hp : List Blk} {n b : Nat} {l : List (Int × Int)} (hb : hp[b]? = some (.cells (cel l))) (hn : n ≤ b) (d : Nat) : shutV hp n (d + 3) (.arr 2 b 0 l.length) = some (.lit 2 .sealed (l.map sp)) := by
  have hbc : blkCells hp b = some (cel l) := by unfold blkCells; rw [getAt_eq, hb]
  have e1 : decide (b < n) = false := by simpa using hn
  have e2 : elems hp 2 (.arr 2 b 0 l.length) = some (l.map sp) := by
    simp only [elems, hbc, beq_self_eq_true, cond_true, List.drop_zero]
    exact chunk_cel l
  rw [shutV]
  simp only [e1, cond_false, e2, shut_sps, Option.map_some]

theorem shut_all {hp : List Blk} {n b : Nat} {l : List (Int × Int)} (hb : hp[b]? = some (.cells (cel l))) (hn : n ≤ b) (e : Int) :
    shutV hp n 100000 (one [.arr 2 b 0 l.length, .int .i64 e]) = some (.tup [.lit 2 .sealed (l.map sp), .int .i64 e]) := by
  show shutV hp n (99996 + 4) (.tup [.arr 2 b 0 l.length, .int .i64 e]) = _
  have h1 := shut_row hb hn 99996
  have h2 : shutV hp n (99996 + 3) (.int .i64 e) = some (.int .i64 e) := rfl
  rw [shutV]
  simp only [mapO, h1, h2, Option.map_some]

/-- the pieces of a right range, forward -/
theorem all_pieces {a b w : Int} (ha : R64 a) (hb : R64 b) (hw : R64 w) (h : ¬ bad a b w) (asc : Bool) (k fl : Nat) (hp : List Blk) (hk : 100 ≤ k) (hfl : fl ≤ hp.length) :
    ∃ b' hp', LA k fl k (HA a b w asc .nilS (many a b w) 0 hp) = some (.exit 0, ⟨slots 52 [(3, .bool asc), (12, .arr 2 b' 0 (pcs a b w (many a b w).toNat).length)], hp'⟩) ∧ hp'[b']? = some (.cells (cel (pcs a b w (many a b w).toNat))) ∧ fl ≤ b' ∧ HPre fl hp hp' := by
  unfold bad at h
  have h1 : ¬ a ≥ b := fun x => h (.inl x)
  have h2 : ¬ w < 1 := fun x => h (.inr (.inl x))
  have h3 : ¬ many a b w > 64 := fun x => h (.inr (.inr x))
  have hm : 1 ≤ many a b w := by
    have : 0 ≤ (b - a - 1) / w := Int.ediv_nonneg (by omega) (by omega)
    unfold many; omega
  obtain ⟨m, hmm⟩ : ∃ m : Nat, many a b w = (m : Int) + 1 := ⟨(many a b w - 1).toNat, by omega⟩
  have htn : (many a b w).toNat = m + 1 := by omega
  have hc := cond_eq ha hb hw (by omega) (Int.le_of_lt (by omega))
  have he : R64 (if b - a > w then a + w else b) ∧ (if b - a > w then a + w else b) ≤ b := by
    obtain ⟨a1, a2⟩ := ha
    obtain ⟨b1, b2⟩ := hb
    unfold R64
    split <;> omega
  have at' : (hp ++ [Blk.cells (cel [(a, if b - a > w then a + w else b)])])[hp.length]? = some (.cells (cel [(a, if b - a > w then a + w else b)])) := by simp
  have pre : HPre fl hp (hp ++ [Blk.cells (cel [(a, if b - a > w then a + w else b)])]) := .push hfl _
  obtain ⟨b', hp', k1, k2, k3, k4⟩ := all_loop2 b w (many a b w) asc hb hw (by omega) (by omega) k fl m (k - m - 2) (if b - a > w then a + w else b) 1 hp.length [(a, if b - a > w then a + w else b)] _ he.1 he.2 (by omega) (by omega) at' hfl (by simp) (by simp; omega)
  have hl2 : [(a, if b - a > w then a + w else b)] ++ pcs (if b - a > w then a + w else b) b w m = pcs a b w (m + 1) := by simp [pcs]
  rw [hl2] at k1 k2
  refine ⟨b', hp', ?_, by rw [htn]; exact k2, k3, pre.trans k4⟩
  rw [htn]
  have hin : decide ((0 : Int) < many a b w) = true := by simp; omega
  have hwi : IntKind.i64.wrap (0 + 1) = 1 := wrap_in ⟨by omega, by omega⟩
  rw [show k = (m + 1 + (k - m - 2)) + 1 by omega]
  rw [show m + 1 + (k - m - 2) + 1 = k by omega] at *
  by_cases hgt : b - a > w
  · simp only [if_pos hgt] at k1 he
    have hww : IntKind.i64.wrap (a + w) = a + w := wrap_in he.1
    have := all_step1 a b w (many a b w) 0 asc hp k fl (m + 1 + (k - m - 2)) hin (by rw [hc]; simpa using hgt)
    rw [show m + 1 + (k - m - 2) + 1 = k by omega, hww, hwi] at this
    rw [this]
    exact k1
  · simp only [if_neg hgt] at k1 he
    have := all_step1' a b w (many a b w) 0 asc hp k fl (m + 1 + (k - m - 2)) hin (by rw [hc]; simpa using hgt)
    rw [show m + 1 + (k - m - 2) + 1 = k by omega, hwi] at this
    rw [this]
    exact k1

/-- All's answer -/
def allL (a b w : Int) (asc : Bool) : List (Int × Int) := if asc then pcs a b w (many a b w).toNat else (pcs a b w (many a b w).toNat).reverse

theorem all_good {a b w : Int} (ha : R64 a) (hb : R64 b) (hw : R64 w) (h : ¬ bad a b w) (asc : Bool) (k fl : Nat) (hp : List Blk) (hk : 100 ≤ k) :
    evCall cfg (k + 2) fl 11 [.int .i64 a, .int .i64 b, .int .i64 w, .bool asc] hp = some (.tup [.lit 2 .sealed ((allL a b w asc).map sp), .int .i64 0], hp) := by
  obtain ⟨b', hp', k1, k2, k3, k4⟩ := all_pieces ha hb hw h asc (k + 1) hp.length hp (by omega) (Nat.le_refl _)
  have hm := many_good ha hb hw k hp.length hp h
  cases asc with
  | true =>
    refine evPure (fi := (FI.of Try.f11).getD ⟨0, [], .skip⟩) [(1, 3, .res (.tup [.int .i64 (many a b w), .int .i64 0]) hp), (6, 1000000, .loop (.exit 0) ⟨slots 52 [(3, .bool true), (12, .arr 2 b' 0 (pcs a b w (many a b w).toNat).length)], hp'⟩)]
      (hpF := hp') (rs := [.arr 2 b' 0 (pcs a b w (many a b w).toNat).length, .int .i64 0])
      (φs := [evCall cfg (k + 1) hp.length 9 [.int .i64 a, .int .i64 b, .int .i64 w] hp = some (.tup [.int .i64 (many a b w), .int .i64 0], hp),
        loopN cfg (evCall cfg (k + 1) hp.length) hp.length 11 (k + 1) (bodyOf Try.f11 6) 6 (k + 1) (HA a b w true .nilS (many a b w) 0 hp) = some (.exit 0, ⟨slots 52 [(3, .bool true), (12, .arr 2 b' 0 (pcs a b w (many a b w).toNat).length)], hp'⟩)])
      (by kernel_rfl) (by kernel_rfl) (by kernel_rfl) (by kernel_rfl) ⟨hm, k1⟩ (shut_all k2 k3 0)
  | false =>
    have hlen : (pcs a b w (many a b w).toNat).length ≤ 64 := by
      rw [pcs_len]
      have h3 : ¬ many a b w > 64 := fun x => h (.inr (.inr x))
      omega
    obtain ⟨hp2, r1, r2, r3, r4⟩ := rev_ev _ hlen b' k hp.length k3 hp' k2 hk k4.1
    have := shut_all (n := hp.length) r2 k3 0
    rw [List.length_reverse] at this
    refine evPure (fi := (FI.of Try.f11).getD ⟨0, [], .skip⟩) [(1, 3, .res (.tup [.int .i64 (many a b w), .int .i64 0]) hp), (6, 1000000, .loop (.exit 0) ⟨slots 52 [(3, .bool false), (12, .arr 2 b' 0 (pcs a b w (many a b w).toNat).length)], hp'⟩), (14, 1, .res (.tup []) hp2)]
      (hpF := hp2) (rs := [.arr 2 b' 0 (pcs a b w (many a b w).toNat).length, .int .i64 0])
      (φs := [evCall cfg (k + 1) hp.length 9 [.int .i64 a, .int .i64 b, .int .i64 w] hp = some (.tup [.int .i64 (many a b w), .int .i64 0], hp),
        loopN cfg (evCall cfg (k + 1) hp.length) hp.length 11 (k + 1) (bodyOf Try.f11 6) 6 (k + 1) (HA a b w false .nilS (many a b w) 0 hp) = some (.exit 0, ⟨slots 52 [(3, .bool false), (12, .arr 2 b' 0 (pcs a b w (many a b w).toNat).length)], hp'⟩),
        evCall cfg (k + 1) hp.length 15 [.arr 2 b' 0 (pcs a b w (many a b w).toNat).length] hp' = some (.tup [], hp2)])
      (by kernel_rfl) (by kernel_rfl) (by kernel_rfl) (by kernel_rfl) ⟨hm, k1, r1⟩ this
end Go.Proofs.Ytfhemdhgpcpfaaa.E.S1
