/- slices.DeleteFunc of a row of pieces, whole. -/
import Derived.Test.YtfhemdhgpcpfaaaEDelete
set_option linter.unusedSimpArgs false
set_option linter.unusedVariables false
namespace Go.Proofs.Ytfhemdhgpcpfaaa.E.S1
open Go Go.Proofs E

theorem fst_none {f : Int × Int → Bool} : ∀ {l : List (Int × Int)}, fst f l = none → l.filter (fun p => !f p) = l
  | [], _ => rfl
  | p :: l, h => by
    simp only [fst] at h
    cases hp : f p with
    | true => rw [hp] at h; cases h
    | false =>
      rw [hp] at h
      simp only [cond_false rfl, Option.map_eq_none_iff] at h
      simp [hp, fst_none h]
theorem fst_some {f : Int × Int → Bool} : ∀ {l : List (Int × Int)} {j : Nat}, fst f l = some j → ∃ p, l[j]? = some p ∧ f p = true ∧ l.filter (fun p => !f p) = l.take j ++ (l.drop (j + 1)).filter (fun p => !f p)
  | [], _, h => by cases h
  | p :: l, j, h => by
    simp only [fst] at h
    cases hp : f p with
    | true =>
      rw [hp] at h
      cases h
      exact ⟨p, rfl, hp, by simp [hp]⟩
    | false =>
      rw [hp] at h
      simp only [cond_false rfl, Option.map_eq_some_iff] at h
      obtain ⟨i, hi, rfl⟩ := h
      obtain ⟨q, h1, h2, h3⟩ := fst_some hi
      exact ⟨q, by simpa using h1, h2, by simp [hp, h3]⟩

def kept (asc : Bool) (ts : Int) (l : List (Int × Int)) : List (Int × Int) := l.filter (fun p => !out asc ts p)
theorem kept_t {asc : Bool} {ts : Int} {p : Int × Int} (h : out asc ts p = true) (l : List (Int × Int)) : kept asc ts (p :: l) = kept asc ts l := by simp [kept, h]
theorem kept_f {asc : Bool} {ts : Int} {p : Int × Int} (h : out asc ts p = false) (l : List (Int × Int)) : kept asc ts (p :: l) = p :: kept asc ts l := by simp [kept, h]
theorem take_set {α : Type} : ∀ {l : List α} {i : Nat} (p : α), i < l.length → (l.set i p).take (i + 1) = l.take i ++ [p]
  | [], _, _, h => by simp at h
  | x :: l, 0, p, _ => by simp
  | x :: l, i + 1, p, h => by
    have := take_set (l := l) (i := i) p (by simpa using h)
    simp [this]

theorem dlt_loop (asc : Bool) (ts : Int) (b c d k fl n : Nat) (hn : n ≤ 64) (hfl : fl ≤ b) (hbc : b ≠ c) (hbd : b ≠ d) :
    ∀ (R : List (Int × Int)) (i j q : Nat) (cur : List (Int × Int)) (hp : List Blk), cur.drop j = R → cur.length = n → i ≤ j → j ≤ n → fl ≤ hp.length →
      hp[b]? = some (.cells (cel cur)) → hp[c]? = some (.cells [.bool asc]) → hp[d]? = some (.cells [.int .i64 ts]) →
      ∃ hp' cur', LD (k + 1) fl (R.length + 1 + q) (HD b n c d i j hp) = some (.exit 0, ⟨slots Try.f16.ntmps [(0, .arr 2 b 0 n), (5, .int .i64 ((i + (kept asc ts R).length : Nat) : Int))], hp'⟩) ∧
        hp'[b]? = some (.cells (cel cur')) ∧ cur'.length = n ∧ cur'.take (i + (kept asc ts R).length) = cur.take i ++ kept asc ts R ∧ HPre fl hp hp' ∧ hp'.length = hp.length ∧ i + (kept asc ts R).length ≤ n
  | [], i, j, q, cur, hp, hd, hl, hij, hj, hf, hb, h1, h2 => by
    have : n ≤ j := by
      have := congrArg List.length hd
      simp at this; omega
    refine ⟨hp, cur, ?_, hb, hl, by simp [kept], .refl hf, rfl, by simp [kept]; omega⟩
    rw [show ([] : List (Int × Int)).length + 1 + q = q + 1 by simp; omega, dlt_end _ _ _ _ _ _ _ _ _ _ (by simp; omega)]
    simp [kept]
  | p :: R, i, j, q, cur, hp, hd, hl, hij, hj, hf, hb, h1, h2 => by
    have hlt : j < n := by
      rcases Nat.lt_or_ge j n with h | h
      · exact h
      · rw [List.drop_eq_nil_of_le (by omega)] at hd; cases hd
    have hp' : cur[j]? = some p := by
      have := congrArg (fun l => l[0]?) hd
      simpa using this
    have hR : cur.drop (j + 1) = R := by
      rw [← List.drop_drop, hd]; rfl
    have hc := del_ev asc ts p c d k fl hp h1 h2
    rw [show (p :: R).length + 1 + q = (R.length + 1 + q) + 1 by simp; omega]
    have ej : ((j : Int) + 1) = ((j + 1 : Nat) : Int) := by omega
    cases ho : out asc ts p with
    | true =>
      rw [ho] at hc
      obtain ⟨hp2, cur2, k1, k2, k3, k4, k5, k6, k7⟩ := dlt_loop asc ts b c d k fl n hn hfl hbc hbd R i (j + 1) q cur hp hR hl (by omega) (by omega) hf hb h1 h2
      have hk : kept asc ts (p :: R) = kept asc ts R := kept_t ho R
      rw [hk]
      refine ⟨hp2, cur2, ?_, k2, k3, k4, k5, k6, k7⟩
      rw [dlt_drop b n c d i j (2 * j) p hp (k + 1) fl _ (by simpa using hlt) (idx_arr hlt) (load_sp hb hp') hc, wrap_in ⟨by omega, by omega⟩, ej]
      exact k1
    | false =>
      rw [ho] at hc
      have hb' : (setAt hp b (.cells (cel (cur.set i p))))[b]? = some (.cells (cel (cur.set i p))) := by
        rw [setAt_eq]; exact List.getElem?_set_self (List.getElem?_eq_some_iff.1 hb).1
      have h1' : (setAt hp b (.cells (cel (cur.set i p))))[c]? = some (.cells [.bool asc]) := by
        rw [setAt_eq, List.getElem?_set_ne hbc]; exact h1
      have h2' : (setAt hp b (.cells (cel (cur.set i p))))[d]? = some (.cells [.int .i64 ts]) := by
        rw [setAt_eq, List.getElem?_set_ne hbd]; exact h2
      have hR' : (cur.set i p).drop (j + 1) = R := by rw [List.drop_set, if_pos (by omega)]; exact hR
      obtain ⟨hp2, cur2, k1, k2, k3, k4, k5, k6, k7⟩ := dlt_loop asc ts b c d k fl n hn hfl hbc hbd R (i + 1) (j + 1) q (cur.set i p) _ hR' (by simpa using hl) (by omega) (by omega) (by rw [setAt_eq]; simpa using hf) hb' h1' h2'
      have hk : kept asc ts (p :: R) = p :: kept asc ts R := kept_f ho R
      have el : i + (p :: kept asc ts R).length = i + 1 + (kept asc ts R).length := by simp; omega
      rw [hk, el]
      refine ⟨hp2, cur2, ?_, k2, k3, ?_, (HPre.set hf hfl _).trans k5, by rw [k6, setAt_eq]; simp, k7⟩
      · rw [dlt_keep b n c d i j (2 * j) (2 * i) p hp _ (k + 1) fl _ (by simpa using hlt) (idx_arr hlt) (load_sp hb hp') hc (idx_arr (by omega)) (store_sp p hb (by omega) hfl), wrap_in ⟨by omega, by omega⟩, wrap_in ⟨by omega, by omega⟩, ej, show ((i : Int) + 1) = ((i + 1 : Nat) : Int) by omega]
        exact k1
      · rw [k4, take_set p (by omega)]; simp

theorem chunk_pre : ∀ (n : Nat) (l : List (Int × Int)), n ≤ l.length → chunk 2 n (cel l) = some ((l.take n).map sp)
  | 0, _, _ => by simp [chunk]
  | n + 1, [], h => by simp at h
  | n + 1, p :: l, h => by
    rw [chunk]
    have : (bif (2 : Nat) == 1 then (cel (p :: l)).head? else (let c := (cel (p :: l)).take 2; bif c.length == 2 then some (.agg c) else none)) = some (sp p) := rfl
    rw [this]
    dsimp only
    have : (cel (p :: l)).drop 2 = cel l := rfl
    rw [this, chunk_pre n l (by simpa using h)]
    simp

theorem zeros_sp (n : Nat) : zeros ⟨.struct [(0, 2), (1, 2)], 2, 16, [.int .i64 0, .int .i64 0], true⟩ n = cel (List.replicate n (0, 0)) := by
  induction n with
  | zero => rfl
  | succ n ih => rw [List.replicate_succ]; simp only [zeros, ih, cel]; rfl

theorem cel_take : ∀ (l : List (Int × Int)) (i : Nat), (cel l).take (2 * i) = cel (l.take i)
  | [], _ => by simp [cel]
  | p :: l, 0 => rfl
  | p :: l, i + 1 => by
    rw [show 2 * (i + 1) = 2 * i + 2 by omega]
    simp [cel, cel_take l i]
theorem cel_drop : ∀ (l : List (Int × Int)) (i : Nat), (cel l).drop (2 * i) = cel (l.drop i)
  | [], _ => by simp [cel]
  | p :: l, 0 => rfl
  | p :: l, i + 1 => by
    rw [show 2 * (i + 1) = 2 * i + 2 by omega]
    simp [cel, cel_drop l i]

theorem bnd_nat (i n : Nat) : bnd (some (.int .i64 (i : Int))) n = some i := by
  have : decide ((i : Int) < 0) = false := by simp
  unfold bnd
  simp only [this, cond_false, Int.toNat_natCast]
theorem slice_lo {hp : List Blk} {b n i : Nat} {cur : List (Int × Int)} (hb : hp[b]? = some (.cells (cel cur))) (hi : i < n) (ts : List TV) :
    sliceE cfg ⟨ts, hp⟩ 28 (.v (.arr 2 b 0 n)) (some (.int .i64 (i : Int))) none none = some (.arr 2 b (2 * i) (n - i)) := by
  have hbc : blkCells hp b = some (cel cur) := by unfold blkCells; rw [getAt_eq, hb]
  unfold sliceE
  have e1 : bnd (some (.int .i64 (i : Int))) 0 = some i := bnd_nat i 0
  have e2 : bnd none n = some n := rfl
  have e3 : (!(decide (i ≤ n) && decide (n ≤ n) && (2 : Nat) == 2)) = false := by simp; omega
  have e4 : (i == n && !(i == 0)) = false := by
    have : (i == n) = false := by simp; omega
    rw [this]; rfl
  simp only [ty28, ty35, e1, e2, hbc, e3, e4, cond_false, Option.isSome]
  simp [Nat.mul_comm]
theorem slice_hi {hp : List Blk} {b n i : Nat} {cur : List (Int × Int)} (hb : hp[b]? = some (.cells (cel cur))) (hi : i ≤ n) (ts : List TV) :
    sliceE cfg ⟨ts, hp⟩ 28 (.v (.arr 2 b 0 n)) none (some (.int .i64 (i : Int))) none = some (.arr 2 b 0 i) := by
  have hbc : blkCells hp b = some (cel cur) := by unfold blkCells; rw [getAt_eq, hb]
  unfold sliceE
  have e1 : bnd (some (.int .i64 (i : Int))) n = some i := bnd_nat i n
  have e2 : bnd none 0 = some 0 := rfl
  have e3 : (!(decide (0 ≤ i) && decide (i ≤ n) && (2 : Nat) == 2)) = false := by simp; omega
  have e4 : (0 == i && !((0 : Nat) == 0)) = false := by simp
  simp only [ty28, ty35, e1, e2, hbc, e3, e4, cond_false]
  simp
theorem clear_sp {fl : Nat} {hp : List Blk} {b n i : Nat} {cur : List (Int × Int)} (hb : hp[b]? = some (.cells (cel cur))) (hl : cur.length = n) (hi : i ≤ n) (hfl : fl ≤ b) (ts : List TV) :
    builtinE cfg fl true ⟨ts, hp⟩ .clear [28] [.arr 2 b (2 * i) (n - i)] = some ⟨.v (.tup []), ts, setAt hp b (.cells (cel (cur.take i ++ List.replicate (n - i) (0, 0)))), .hw⟩ := by
  have hbc : blkCells hp b = some (cel cur) := by unfold blkCells; rw [getAt_eq, hb]
  simp only [builtinE, clearE, ty28, ty35, hbc, zeros_sp]
  have e : (decide (fl ≤ b) && (2 : Nat) == 2 && !((2 : Nat) == 0) && decide (2 * i + (n - i) * 2 ≤ (cel cur).length)) = true := by
    simp [cel_len, hl]; omega
  rw [e, cond_true rfl, splice_eq _ _ _ (by simp [cel_len, hl]; omega), cel_take, cel_len, List.length_replicate]
  rw [show 2 * i + 2 * (n - i) = 2 * n by omega, List.drop_eq_nil_of_le (by simp [cel_len, hl]), cel_app]
  simp

theorem dlt_ev (asc : Bool) (ts : Int) (b c d k fl : Nat) (hp : List Blk) (L : List (Int × Int)) (hL : L.length ≤ 64) (hk : 200 ≤ k) (hfl : fl ≤ b) (hbc : b ≠ c) (hbd : b ≠ d) (hf : fl ≤ hp.length)
    (hb : hp[b]? = some (.cells (cel L))) (h1 : hp[c]? = some (.cells [.bool asc])) (h2 : hp[d]? = some (.cells [.int .i64 ts])) :
    ∃ hp' cur, evCall cfg (k + 1) fl 16 [.arr 2 b 0 L.length, del c d] hp = some (.arr 2 b 0 (kept asc ts L).length, hp') ∧ hp'[b]? = some (.cells (cel cur)) ∧ cur.take (kept asc ts L).length = kept asc ts L ∧ (kept asc ts L).length ≤ cur.length ∧ HPre fl hp hp' := by
  have hx := idx_ev asc ts b c d (k - 1) fl hp L hL (by omega) hb h1 h2
  rw [show k - 1 + 1 = k by omega] at hx
  cases hj : fst (out asc ts) L with
  | none =>
    rw [hj] at hx
    have hkp : kept asc ts L = L := fst_none hj
    rw [hkp]
    refine ⟨hp, L, ?_, hb, by simp, Nat.le_refl _, .refl hf⟩
    exact evP [(1, 2, .res (.int .i64 (-1)) hp)] (φs := [evCall cfg k fl 19 [.arr 2 b 0 L.length, del c d] hp = some (.int .i64 (-1), hp)]) (by kernel_rfl) hx
  | some j =>
    rw [hj] at hx
    obtain ⟨p, g1, g2, g3⟩ := fst_some hj
    have hjl : j < L.length := (List.getElem?_eq_some_iff.1 g1).1
    have hkp : kept asc ts L = L.take j ++ kept asc ts (L.drop (j + 1)) := g3
    obtain ⟨hp2, cur2, k1, k2, k3, k4, k5, k6, k7⟩ := dlt_loop asc ts b c d (k - 1) fl L.length hL hfl hbc hbd (L.drop (j + 1)) j (j + 1) (k - (L.length - (j + 1)) - 1) L hp rfl rfl (by omega) (by omega) hf hb h1 h2
    have el : (kept asc ts L).length = j + (kept asc ts (L.drop (j + 1))).length := by rw [hkp]; simp; omega
    have hle : (kept asc ts (L.drop (j + 1))).length ≤ L.length - (j + 1) := by
      have := List.length_filter_le (fun p => !out asc ts p) (L.drop (j + 1))
      rw [List.length_drop] at this
      exact this
    rw [List.length_drop, show L.length - (j + 1) + 1 + (k - (L.length - (j + 1)) - 1) = k by omega, show k - 1 + 1 = k by omega, show (((j + 1 : Nat) : Int)) = (j : Int) + 1 by omega] at k1
    rw [← el] at k1 k4 k7
    generalize hK : (kept asc ts L).length = K at *
    have hKL : K < L.length := by omega
    have hb3 : (setAt hp2 b (.cells (cel (cur2.take K ++ List.replicate (L.length - K) (0, 0)))))[b]? = some (.cells (cel (cur2.take K ++ List.replicate (L.length - K) (0, 0)))) := by
      rw [setAt_eq]; exact List.getElem?_set_self (List.getElem?_eq_some_iff.1 k2).1
    refine ⟨setAt hp2 b (.cells (cel (cur2.take K ++ List.replicate (L.length - K) (0, 0)))), cur2.take K ++ List.replicate (L.length - K) (0, 0), ?_, hb3, ?_, by simp; omega, k5.trans (.set (by rw [k6]; exact hf) hfl _)⟩
    · exact evP [(1, 2, .res (.int .i64 (j : Int)) hp), (2, 1, .val (.bool false)), (5, 1000000, .loop (.exit 0) ⟨slots Try.f16.ntmps [(0, .arr 2 b 0 L.length), (5, .int .i64 (K : Int))], hp2⟩),
        (11, 2, .mem (.arr 2 b (2 * K) (L.length - K)) hp2 .hr), (11, 3, .mem (.tup []) (setAt hp2 b (.cells (cel (cur2.take K ++ List.replicate (L.length - K) (0, 0))))) .hw), (12, 2, .mem (.arr 2 b 0 K) (setAt hp2 b (.cells (cel (cur2.take K ++ List.replicate (L.length - K) (0, 0))))) .hr)]
        (φs := [evCall cfg k fl 19 [.arr 2 b 0 L.length, del c d] hp = some (.int .i64 (j : Int), hp),
          some (AV.bool ((j : Int) == -1)) = some (.bool false),
          loopN cfg (evCall cfg k fl) fl 16 k (bodyOf Try.f16 5) 5 k (HD b L.length c d j (IntKind.i64.wrap ((j : Int) + 1)) hp) = some (.exit 0, ⟨slots Try.f16.ntmps [(0, .arr 2 b 0 L.length), (5, .int .i64 (K : Int))], hp2⟩),
          (∀ ts, sliceE cfg ⟨ts, hp2⟩ 28 (.v (.arr 2 b 0 L.length)) (some (.int .i64 (K : Int))) none none = some (.arr 2 b (2 * K) (L.length - K))) ∧ hp2 = hp2 ∧ (Fp.hr : Fp) = .hr,
          ∀ ts, builtinE cfg fl true ⟨ts, hp2⟩ .clear [28] [.arr 2 b (2 * K) (L.length - K)] = some ⟨.v (.tup []), ts, setAt hp2 b (.cells (cel (cur2.take K ++ List.replicate (L.length - K) (0, 0)))), .hw⟩,
          (∀ ts, sliceE cfg ⟨ts, setAt hp2 b (.cells (cel (cur2.take K ++ List.replicate (L.length - K) (0, 0))))⟩ 28 (.v (.arr 2 b 0 L.length)) none (some (.int .i64 (K : Int))) none = some (.arr 2 b 0 K)) ∧ setAt hp2 b (.cells (cel (cur2.take K ++ List.replicate (L.length - K) (0, 0)))) = setAt hp2 b (.cells (cel (cur2.take K ++ List.replicate (L.length - K) (0, 0)))) ∧ (Fp.hr : Fp) = .hr])
        (by kernel_rfl)
        ⟨hx, by simp, by rw [wrap_in ⟨by omega, by omega⟩]; exact k1, ⟨slice_lo k2 hKL, rfl, rfl⟩, clear_sp k2 k3 (by omega) hfl, ⟨slice_hi hb3 (by omega), rfl, rfl⟩⟩
    · rw [List.take_append_of_le_length (by simp; omega), List.take_take, Nat.min_self, k4, hkp]
end Go.Proofs.Ytfhemdhgpcpfaaa.E.S1
