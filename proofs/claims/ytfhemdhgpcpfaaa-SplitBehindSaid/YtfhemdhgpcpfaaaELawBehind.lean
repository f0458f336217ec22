/- archivistlaw17.SplitBehind: the law. -/
import Derived.Test.YtfhemdhgpcpfaaaEBehindLoop
set_option linter.unusedSimpArgs false
set_option linter.unusedVariables false
namespace Go.Proofs.Ytfhemdhgpcpfaaa.E.S1
open Go Go.Proofs E

/-- a row of which just the m-th has the time, and those ahead of it are to be left out -/
def Suf (asc : Bool) (t : Int) (L : List (Int × Int)) (m : Nat) : Prop :=
  ∀ i p, L[i]? = some p → out asc t p = decide (i < m) ∧ (p.1 ≤ t ∧ t < p.2 ↔ i = m)

theorem jin {n : Int} (h : R64 n) : J n = n := wrap_in h
theorem kept_drop {asc : Bool} {t : Int} : ∀ {L : List (Int × Int)} {m : Nat}, (∀ i p, L[i]? = some p → out asc t p = decide (i < m)) → kept asc t L = L.drop m
  | [], m, _ => by simp [kept]
  | p :: L, 0, h => by
    have h0 := h 0 p rfl
    have := kept_drop (asc := asc) (t := t) (L := L) (m := 0) (fun i q hq => by have := h (i + 1) q (by simpa using hq); simpa using this)
    rw [kept_f (by simpa using h0), this]
    rfl
  | p :: L, m + 1, h => by
    have h0 := h 0 p rfl
    have := kept_drop (asc := asc) (t := t) (L := L) (m := m) (fun i q hq => by have := h (i + 1) q (by simpa using hq); simpa using this)
    rw [kept_t (by simpa using h0), this]
    rfl

theorem cnt_loop (asc : Bool) (t : Int) (L : List (Int × Int)) (m : Nat) (hL : L.length ≤ 64) (hs : Suf asc t L m) (hm : m < L.length) (k : Nat) :
    ∀ (n i q : Nat), i + n = L.length → LC k (n + 1 + q) (HC asc t (L.map sp) (if i ≤ m then 0 else 1) i) = some (.exit 0, HC' asc t (L.map sp) 1)
  | 0, i, q, hi => by
    rw [show 0 + 1 + q = q + 1 by omega, cnt_end _ _ _ _ _ _ _ (by simp; omega), if_neg (by omega)]
  | n + 1, i, q, hi => by
    have hil : i < L.length := by omega
    obtain ⟨p, hp⟩ : ∃ p, L[i]? = some p := ⟨L[i], List.getElem?_eq_getElem hil⟩
    obtain ⟨-, h2⟩ := hs i p hp
    have hx : indexAddr cfg 28 (.v (.lit 2 .sealed (L.map sp))) (i : Int) = some (.v (.rop (sp p))) := idx_lit (by rw [List.getElem?_map, hp]; rfl)
    have hlt : decide ((i : Int) < ((L.map sp).length : Int)) = true := by simp; omega
    have ih := cnt_loop asc t L m hL hs hm k n (i + 1) q (by omega)
    have ei : J ((i : Int) + 1) = ((i + 1 : Nat) : Int) := by rw [jin ⟨by omega, by omega⟩]; omega
    rw [show n + 1 + 1 + q = (n + 1 + q) + 1 by omega]
    by_cases h1 : p.1 ≤ t
    · by_cases h3 : t < p.2
      · have hm' : i = m := h2.1 ⟨h1, h3⟩
        rw [cnt_in asc t _ _ _ p k _ hlt hx (by simpa using h1) (by simpa using h3), ei, if_pos (by omega)]
        rw [if_neg (by omega)] at ih
        exact ih
      · have hm' : i ≠ m := fun e => h3 (h2.2 e).2
        rw [cnt_hi asc t _ _ _ p k _ hlt hx (by simpa using h1) (by simpa using h3), ei]
        rw [show (if i + 1 ≤ m then (0 : Int) else 1) = if i ≤ m then 0 else 1 by split <;> split <;> omega] at ih
        exact ih
    · have hm' : i ≠ m := fun e => h1 (h2.2 e).1
      rw [cnt_lo asc t _ _ _ p k _ hlt hx (by simpa using h1), ei]
      rw [show (if i + 1 ≤ m then (0 : Int) else 1) = if i ≤ m then 0 else 1 by split <;> split <;> omega] at ih
      exact ih

theorem cmp_loop (t : Int) (L : List (Int × Int)) (m : Nat) (hL : L.length ≤ 64) (hm : m < L.length) (k : Nat) :
    ∀ (n i q : Nat), i + n = L.length - m → LE k (n + 1 + q) (HE t (L.map sp) ((L.drop m).map sp) i) = some (.exit 2, HE' t ((L.drop m).map sp))
  | 0, i, q, hi => by
    rw [show 0 + 1 + q = q + 1 by omega, cmp_end _ _ _ _ _ _ (by simp; omega)]
  | n + 1, i, q, hi => by
    have hil : m + i < L.length := by omega
    obtain ⟨p, hp⟩ : ∃ p, L[m + i]? = some p := ⟨L[m + i], List.getElem?_eq_getElem hil⟩
    have hx : indexAddr cfg 28 (.v (.lit 2 .sealed ((L.drop m).map sp))) (i : Int) = some (.v (.rop (sp p))) := idx_lit (by rw [List.getElem?_map, List.getElem?_drop, hp]; rfl)
    have hy : indexAddr cfg 28 (.v (.lit 2 .sealed (L.map sp))) (J (J (((L.map sp).length : Int) - (((L.drop m).map sp).length : Int)) + i)) = some (.v (.rop (sp p))) := by
      rw [show J (((L.map sp).length : Int) - (((L.drop m).map sp).length : Int)) = (m : Int) by
        simp only [List.length_map, List.length_drop]
        rw [jin ⟨by omega, by omega⟩]; omega, show J ((m : Int) + i) = ((m + i : Nat) : Int) by rw [jin ⟨by omega, by omega⟩]; omega]
      exact idx_lit (by rw [List.getElem?_map, hp]; rfl)
    have ih := cmp_loop t L m hL hm k n (i + 1) q (by omega)
    have ei : J ((i : Int) + 1) = ((i + 1 : Nat) : Int) := by rw [jin ⟨by omega, by omega⟩]; omega
    rw [show n + 1 + 1 + q = (n + 1 + q) + 1 by omega, cmp_step t _ _ _ p p k _ (by simp; omega) hx hy (neq_sp p), ei]
    exact ih

theorem behind_law (a b c d : Int) (asc : Bool) (ha : -2147483648 ≤ a ∧ a ≤ 2147483647) (hb : 0 ≤ b ∧ b ≤ 255) (hc : 0 ≤ c ∧ c ≤ 255) (hd : 0 ≤ d ∧ d ≤ 65535) :
    evCall cfg 1001 0 5 [.int .i32 a, .int .u8 b, .int .u8 c, .int .u16 d, .bool asc] [] = some (.bool true, []) := by
  have ea : J a = a := wrap_in ⟨by omega, by omega⟩
  have ed : J d = d := wrap_in ⟨by omega, by omega⟩
  have ewb : WB b = b % 50 + 1 := by
    unfold WB
    rw [Int.tmod_eq_emod_of_nonneg hb.1, show J (b % 50) = b % 50 from wrap_in ⟨by omega, by omega⟩]; exact wrap_in ⟨by omega, by omega⟩
  obtain ⟨w, hw⟩ : ∃ w, w = b % 50 + 1 := ⟨_, rfl⟩
  obtain ⟨n, hn⟩ : ∃ n : Nat, (n : Int) + 1 = 1 + c % 64 := ⟨(c % 64).toNat, by omega⟩
  have ew : WB b = w := by rw [ewb, hw]
  have hw1 : 1 ≤ w := by omega
  have hw2 : w ≤ 50 := by omega
  have hnw : 0 ≤ (n : Int) * w := Int.mul_nonneg (by omega) (by omega)
  have hn64 : (n : Int) ≤ 63 := by omega
  have hnw2 : (n : Int) * w ≤ 63 * w := Int.mul_le_mul_of_nonneg_right hn64 (by omega)
  have exp : ((n : Int) + 1) * w = n * w + w := by rw [Int.add_mul]; omega
  have et : TB a b c = a + (n * w + w) := by
    have m1 : w * ((n : Int) + 1) = n * w + w := by rw [Int.mul_comm]; exact exp
    unfold TB
    rw [ea, ew, Int.tmod_eq_emod_of_nonneg hc.1, show J (c % 64) = c % 64 from wrap_in ⟨by omega, by omega⟩, show J (1 + c % 64) = (n : Int) + 1 by rw [jin ⟨by omega, by omega⟩]; omega, m1]
    rw [show J ((n : Int) * w + w) = n * w + w from wrap_in ⟨by omega, by omega⟩]
    exact wrap_in ⟨by omega, by omega⟩
  obtain ⟨t, ht⟩ : ∃ t, t = a + (n * w + w) := ⟨_, rfl⟩
  rw [← ht] at et
  have etl : J (TB a b c - J a) = n * w + w := by rw [et, ea, ht]; rw [jin ⟨by omega, by omega⟩]; omega
  obtain ⟨r, hr⟩ : ∃ r, r = d % (n * w + w) := ⟨_, rfl⟩
  have hr1 : 0 ≤ r := by rw [hr]; exact Int.emod_nonneg _ (by omega)
  have hr2 : r < n * w + w := by rw [hr]; exact Int.emod_lt_of_pos _ (by omega)
  have h0 : (bif J (TB a b c - J a) == 0 then none else some (AV.int .i64 ((J d).tmod (J (TB a b c - J a))))) = some (.int .i64 r) := by
    rw [etl, ed]
    have : ((n : Int) * w + w == 0) = false := by simp; omega
    rw [this, cond_false rfl, Int.tmod_eq_emod_of_nonneg hd.1, ← hr]
  have ets : J (J a + r) = a + r := by rw [ea]; exact wrap_in ⟨by omega, by omega⟩
  have hm : many a t w = n + 1 := by
    unfold many
    have : (t - a - 1) / w = n := by
      apply Int.le_antisymm
      · have : (t - a - 1) / w < n + 1 := Int.ediv_lt_of_lt_mul (by omega) (by rw [exp]; omega)
        omega
      · exact Int.le_ediv_of_mul_le (by omega) (by omega)
    omega
  have hg : ¬ bad a t w := by unfold bad; rw [hm]; omega
  have htn : (many a t w).toNat = n + 1 := by omega
  have hP := pcs_get t w hw1 n a (by omega) (by rw [exp]; omega)
  have hlen : (pcs a t w (n + 1)).length = n + 1 := pcs_len t w (n + 1) a
  have hpt : ∀ i, i ≤ n + 1 → pt a t w (n + 1) i = a + i * w := fun i hi => by
    unfold pt
    by_cases h : i < n + 1
    · rw [if_pos h]
    · have : i = n + 1 := by omega
      subst this
      rw [if_neg h, ht, Int.natCast_add, show ((n : Int) + ((1 : Nat) : Int)) * w = n * w + w from exp]
  have h1 := all_good (asc := asc) (⟨by omega, by omega⟩ : R64 a) (⟨by omega, by omega⟩ : R64 t) (⟨by omega, by omega⟩ : R64 w) hg 998 0 [] (by omega)
  -- the piece that has the time
  obtain ⟨q, hq⟩ : ∃ q : Nat, (q : Int) = r / w := ⟨(r / w).toNat, Int.toNat_of_nonneg (Int.ediv_nonneg hr1 (by omega))⟩
  have q1 : (q : Int) * w ≤ r := by rw [hq]; exact Int.ediv_mul_le _ (by omega)
  have q2 : r < ((q : Int) + 1) * w := by
    rw [hq]; exact Int.lt_ediv_add_one_mul_self r (by omega)
  have qn : q ≤ n := by
    have : (q : Int) < n + 1 := by rw [hq]; exact Int.ediv_lt_of_lt_mul (by omega) (by rw [exp]; omega)
    omega
  have lt_iff : ∀ i : Nat, ((i : Int) + 1) * w ≤ r ↔ i < q := fun i => by
    constructor
    · intro h
      have : ((i : Int) + 1) ≤ r / w := Int.le_ediv_of_mul_le (by omega) h
      omega
    · intro h
      have : ((i : Int) + 1) * w ≤ q * w := Int.mul_le_mul_of_nonneg_right (by omega) (by omega)
      omega
  have gt_iff : ∀ i : Nat, r < (i : Int) * w ↔ q < i := fun i => by
    constructor
    · intro h
      rcases Nat.lt_or_ge q i with h2 | h2
      · exact h2
      · have : (i : Int) * w ≤ q * w := Int.mul_le_mul_of_nonneg_right (by omega) (by omega)
        omega
    · intro h
      have : ((q : Int) + 1) * w ≤ i * w := Int.mul_le_mul_of_nonneg_right (by omega) (by omega)
      omega
  obtain ⟨L, hL, hLl, m, hml, hs⟩ : ∃ L, L = allL a t w asc ∧ L.length = n + 1 ∧ ∃ m, m < n + 1 ∧ Suf asc (a + r) L m := by
    refine ⟨_, rfl, ?_, ?_⟩
    · unfold allL; split <;> simp [htn, hlen]
    · cases asc with
      | true =>
        refine ⟨q, by omega, fun i p hp => ?_⟩
        simp only [allL, htn, if_true] at hp
        have hi : i < n + 1 := by have := (List.getElem?_eq_some_iff.1 hp).1; omega
        rw [hP i hi, hpt i (by omega), hpt (i + 1) (by omega)] at hp
        cases hp
        have e1 : (((i + 1 : Nat) : Int)) * w = ((i : Int) + 1) * w := by rw [Int.natCast_add]; rfl
        have l1 := lt_iff i
        have l2 := gt_iff i
        constructor
        · simp only [out, cond_true rfl, e1]
          exact decide_eq_decide.2 (by omega)
        · simp only [e1]; omega
      | false =>
        refine ⟨n - q, by omega, fun j p hp => ?_⟩
        simp only [allL, htn, Bool.false_eq_true, if_false] at hp
        have hj : j < n + 1 := by have := (List.getElem?_eq_some_iff.1 hp).1; simp [hlen] at this; omega
        rw [List.getElem?_reverse (by omega), hlen, hP _ (by omega), hpt _ (by omega), hpt _ (by omega)] at hp
        cases hp
        obtain ⟨i, hi⟩ : ∃ i, i = n + 1 - 1 - j := ⟨_, rfl⟩
        rw [← hi]
        have e1 : (((i + 1 : Nat) : Int)) * w = ((i : Int) + 1) * w := by rw [Int.natCast_add]; rfl
        have l1 := lt_iff i
        have l2 := gt_iff i
        constructor
        · simp only [out, cond_false rfl, e1]
          exact decide_eq_decide.2 (by omega)
        · simp only [e1]; omega
  rw [← hL] at h1
  have hk : kept asc (a + r) L = L.drop m := kept_drop fun i p hp => (hs i p hp).1
  obtain ⟨p, hp⟩ : ∃ p, L[m]? = some p := ⟨L[m], List.getElem?_eq_getElem (by omega)⟩
  have hin := (hs m p hp).2.2 rfl
  have hloop := cnt_loop asc (a + r) L m (by omega) hs (by omega) 1000 (n + 1) 0 (1000 - n - 2) (by omega)
  rw [show n + 1 + 1 + (1000 - n - 2) = 1000 by omega, if_pos (by omega)] at hloop
  have hloop2 := cmp_loop (a + r) L m (by omega) (by omega) 1000 (n + 1 - m) 0 (1000 - (n + 1 - m) - 1) (by omega)
  rw [show n + 1 - m + 1 + (1000 - (n + 1 - m) - 1) = 1000 by omega] at hloop2
  have hbe := beh_ev asc (a + r) L (by omega) (by intro e; rw [e] at hLl; simp at hLl) 999 (by omega)
  rw [hk] at hbe
  refine beh_path a b c d r asc (L.map sp) ((L.drop m).map sp) p ex h0 ?_ ?_ ?_ ?_ ?_ ?_ ?_ ?_ ?_
  · rw [ea, et, ew]; exact h1
  · rw [ets]; exact hloop
  · rw [ets]; exact hbe
  · first | (simp; done) | (simp; omega)
  · first | (simp; done) | (simp; omega)
  · rw [ets]; exact hloop2
  · exact idx_lit (i := 0) (by rw [List.getElem?_map, List.getElem?_drop, Nat.add_zero, hp]; rfl)
  · rw [ets]; simpa using hin.1
  · rw [ets]; simpa using hin.2
end Go.Proofs.Ytfhemdhgpcpfaaa.E.S1
