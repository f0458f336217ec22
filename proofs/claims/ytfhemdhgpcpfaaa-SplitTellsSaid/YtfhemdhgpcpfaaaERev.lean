/- slices.Reverse of a row of pieces. -/
import Derived.Test.YtfhemdhgpcpfaaaEAll
set_option linter.unusedSimpArgs false
set_option linter.unusedVariables false
namespace Go.Proofs.Ytfhemdhgpcpfaaa.E.S1
open Go Go.Proofs E

def HR (b len : Nat) (i j : Int) (hp : List Blk) : St := ⟨slots 28 [(0, .arr 2 b 0 len), (2, .int .i64 i), (3, .int .i64 j)], hp⟩
noncomputable abbrev LR (k fl : Nat) := loopN cfg (evCall cfg k fl) fl 15 k (bodyOf Try.f15 1) 1

theorem rev_end (b len : Nat) (i j : Int) (hp : List Blk) (k fl m : Nat) (h : decide (i < j) = false) : LR k fl (m + 1) (HR b len i j hp) = some (.exit 0, ⟨slots 28 [], hp⟩) :=
  loop_exit (π := [(1, 2, .val (.bool false))]) (φs := [some (AV.bool (decide (i < j))) = some (.bool false)]) (by kernel_rfl) (fun h => by cases h) (by rw [h]; rfl)

theorem rev_step (b len : Nat) (i j : Int) (x y : AV) (oi oj : Nat) (hp hp1 hp2 : List Blk) (k fl m : Nat) (h : decide (i < j) = true)
    (hi : indexAddr cfg 28 (.v (.arr 2 b 0 len)) i = some (.v (.ptr b oi))) (hj : indexAddr cfg 28 (.v (.arr 2 b 0 len)) j = some (.v (.ptr b oj)))
    (hx : ∀ ts, loadAt cfg ⟨ts, hp⟩ 35 (.v (.ptr b oj)) = some ⟨.v x, ts, hp, .hr⟩) (hy : ∀ ts, loadAt cfg ⟨ts, hp⟩ 35 (.v (.ptr b oi)) = some ⟨.v y, ts, hp, .hr⟩)
    (h1 : ∀ ts, storeAt cfg fl ⟨ts, hp⟩ 35 (.v (.ptr b oi)) x = some ⟨.sk, ts, hp1, .hw⟩) (h2 : ∀ ts, storeAt cfg fl ⟨ts, hp1⟩ 35 (.v (.ptr b oj)) y = some ⟨.sk, ts, hp2, .hw⟩) :
    LR k fl (m + 1) (HR b len i j hp) = LR k fl m (HR b len (IntKind.i64.wrap (i + 1)) (IntKind.i64.wrap (j - 1)) hp2) :=
  loop_step (π := [(1, 2, .val (.bool true)), (3, 6, .val (.ptr b oj)), (3, 7, .mem x hp .hr), (3, 10, .val (.ptr b oi)), (3, 11, .mem y hp .hr), (3, 12, .val (.ptr b oi)), (3, 13, .sto hp1 .hw), (3, 14, .val (.ptr b oj)), (3, 15, .sto hp2 .hw)])
    (φs := [some (AV.bool (decide (i < j))) = some (.bool true), indexAddr cfg 28 (.v (.arr 2 b 0 len)) j = some (.v (.ptr b oj)), ∀ ts, loadAt cfg ⟨ts, hp⟩ 35 (.v (.ptr b oj)) = some ⟨.v x, ts, hp, .hr⟩,
      indexAddr cfg 28 (.v (.arr 2 b 0 len)) i = some (.v (.ptr b oi)), ∀ ts, loadAt cfg ⟨ts, hp⟩ 35 (.v (.ptr b oi)) = some ⟨.v y, ts, hp, .hr⟩,
      indexAddr cfg 28 (.v (.arr 2 b 0 len)) i = some (.v (.ptr b oi)), ∀ ts, storeAt cfg fl ⟨ts, hp⟩ 35 (.v (.ptr b oi)) x = some ⟨.sk, ts, hp1, .hw⟩,
      indexAddr cfg 28 (.v (.arr 2 b 0 len)) j = some (.v (.ptr b oj)), ∀ ts, storeAt cfg fl ⟨ts, hp1⟩ 35 (.v (.ptr b oj)) y = some ⟨.sk, ts, hp2, .hw⟩])
    (by kernel_rfl) (by rw [h]; exact ⟨rfl, hj, hx, hi, hy, hi, h1, hj, h2⟩)

theorem idx_arr {b len : Nat} {i : Nat} (h : i < len) : indexAddr cfg 28 (.v (.arr 2 b 0 len)) (i : Int) = some (.v (.ptr b (2 * i))) := by
  unfold indexAddr
  have e1 : decide ((i : Int) < 0) = false := by simp
  have e2 : decide ((i : Int) < (len : Int)) = true := by simpa using h
  simp [ty28, ty35, e1, h]; omega

theorem part_cel : ∀ (l : List (Int × Int)) (i : Nat) (p : Int × Int), l[i]? = some p → ((cel l).drop (2 * i)).take 2 = [.int .i64 p.1, .int .i64 p.2]
  | [], i, p, h => by simp at h
  | q :: l, 0, p, h => by simp at h; subst h; simp [cel]
  | q :: l, i + 1, p, h => by
    simp only [List.getElem?_cons_succ] at h
    rw [show 2 * (i + 1) = 2 * i + 2 by omega]
    simpa [cel] using part_cel l i p h

theorem load_sp {hp : List Blk} {b i : Nat} {l : List (Int × Int)} {p : Int × Int} (hb : hp[b]? = some (.cells (cel l))) (h : l[i]? = some p) (ts : List TV) :
    loadAt cfg ⟨ts, hp⟩ 35 (.v (.ptr b (2 * i))) = some ⟨.v (sp p), ts, hp, .hr⟩ := by
  have hbc : blkCells hp b = some (cel l) := by unfold blkCells; rw [getAt_eq, hb]
  unfold loadAt
  simp only [ty35, hbc, part, TK.agg, cond_true, part_cel l i p h]
  rfl

theorem store_sp {fl : Nat} {hp : List Blk} {b i : Nat} {l : List (Int × Int)} (p : Int × Int) (hb : hp[b]? = some (.cells (cel l))) (h : i < l.length) (hfl : fl ≤ b) (ts : List TV) :
    storeAt cfg fl ⟨ts, hp⟩ 35 (.v (.ptr b (2 * i))) (sp p) = some ⟨.sk, ts, setAt hp b (.cells (cel (l.set i p))), .hw⟩ := by
  have hbc : blkCells hp b = some (cel l) := by unfold blkCells; rw [getAt_eq, hb]
  unfold storeAt
  have e1 : (!((sp p).cells.length == 2) || !(sp p).noTup) = false := rfl
  have e2 : (decide (2 * i + 2 ≤ (cel l).length) && decide (fl ≤ b)) = true := by simp [cel_len]; omega
  simp only [ty35, hbc, e1, e2, cond_false, cond_true]
  have := flat_set (sz := 2) (l.map sp) i (sp p) (fun y hy => by obtain ⟨q, _, rfl⟩ := List.mem_map.1 hy; rfl) rfl (by simpa using h)
  rw [← List.map_set, flat_sp, flat_sp, Nat.mul_comm] at this
  rw [this]

/-- where a row stands that is turned up to i -/
def Turned (l cur : List (Int × Int)) (i : Nat) : Prop := cur.length = l.length ∧ ∀ k, k < l.length → cur[k]? = if k < i ∨ l.length - 1 - k < i then l[l.length - 1 - k]? else l[k]?

theorem turned_end {l cur : List (Int × Int)} {i : Nat} (h : Turned l cur i) (hi : l.length ≤ 2 * i + 1) : cur = l.reverse := by
  apply List.ext_getElem?
  intro k
  by_cases hk : k < l.length
  · rw [h.2 k hk, List.getElem?_reverse hk]
    split
    · rfl
    · rename_i hn
      have : l.length - 1 - k = k := by omega
      rw [this]
  · rw [List.getElem?_eq_none (by rw [h.1]; omega), List.getElem?_eq_none (by simp; omega)]

theorem turned_step {l cur : List (Int × Int)} {i : Nat} {x y : Int × Int} (h : Turned l cur i) (hi : 2 * i + 1 < l.length) (hx : cur[l.length - 1 - i]? = some x) (hy : cur[i]? = some y) : Turned l ((cur.set i x).set (l.length - 1 - i) y) (i + 1) := by
  refine ⟨by simp [h.1], fun k hk => ?_⟩
  rw [List.getElem?_set, List.getElem?_set]
  have hx' := h.2 (l.length - 1 - i) (by omega)
  have hy' := h.2 i (by omega)
  rw [hx] at hx'
  rw [hy] at hy'
  rw [if_neg (by omega)] at hx' hy'
  by_cases h1 : l.length - 1 - i = k
  · rw [if_pos h1, if_pos (by simp [h.1]; omega), if_pos (by omega), hy']
    congr 1; omega
  · rw [if_neg h1]
    by_cases h2 : i = k
    · rw [if_pos h2, if_pos (by rw [h.1]; omega), if_pos (by omega), hx']
      congr 1; omega
    · rw [if_neg h2, h.2 k hk]
      by_cases h3 : k < i ∨ l.length - 1 - k < i
      · rw [if_pos h3, if_pos (by omega)]
      · rw [if_neg h3, if_neg (by omega)]

theorem rev_loop (l : List (Int × Int)) (hl : l.length ≤ 1000) (b k fl : Nat) (hfl : fl ≤ b) : ∀ (m : Nat) (i : Nat) (cur : List (Int × Int)) (hp : List Blk) (q : Nat), Turned l cur i → hp[b]? = some (.cells (cel cur)) → fl ≤ hp.length → l.length ≤ 2 * i + 1 + 2 * m →
    ∃ hp', LR k fl (m + 1 + q) (HR b l.length i (l.length - 1 - i) hp) = some (.exit 0, ⟨slots 28 [], hp'⟩) ∧ hp'[b]? = some (.cells (cel l.reverse)) ∧ HPre fl hp hp' ∧ hp'.length = hp.length
  | 0, i, cur, hp, q, ht, hb, hlen, hi => by
    refine ⟨hp, ?_, ?_, .refl hlen, rfl⟩
    · rw [show 0 + 1 + q = q + 1 by omega, rev_end _ _ _ _ _ _ _ _ (by simp; omega)]
    · rw [← turned_end ht (by omega)]; exact hb
  | m + 1, i, cur, hp, q, ht, hb, hlen, hi => by
    by_cases hd : l.length ≤ 2 * i + 1
    · refine ⟨hp, ?_, ?_, .refl hlen, rfl⟩
      · rw [show m + 1 + 1 + q = (m + 1 + q) + 1 by omega, rev_end _ _ _ _ _ _ _ _ (by simp; omega)]
      · rw [← turned_end ht hd]; exact hb
    · have hcl : cur.length = l.length := ht.1
      have hx : ∃ x, cur[l.length - 1 - i]? = some x := ⟨_, List.getElem?_eq_getElem (by omega)⟩
      have hy : ∃ y, cur[i]? = some y := ⟨_, List.getElem?_eq_getElem (by omega)⟩
      obtain ⟨x, hx⟩ := hx
      obtain ⟨y, hy⟩ := hy
      have hbl := (List.getElem?_eq_some_iff.1 hb).1
      have hb1 : (setAt hp b (.cells (cel (cur.set i x))))[b]? = some (.cells (cel (cur.set i x))) := by rw [setAt_eq, List.getElem?_set_self hbl]
      have hb2 : (setAt (setAt hp b (.cells (cel (cur.set i x)))) b (.cells (cel ((cur.set i x).set (l.length - 1 - i) y))))[b]? = some (.cells (cel ((cur.set i x).set (l.length - 1 - i) y))) := by
        rw [setAt_eq, setAt_eq, List.getElem?_set_self (by simpa using hbl)]
      have p1 : HPre fl hp (setAt hp b (.cells (cel (cur.set i x)))) := .set hlen hfl _
      have p2 : HPre fl (setAt hp b (.cells (cel (cur.set i x)))) (setAt (setAt hp b (.cells (cel (cur.set i x)))) b (.cells (cel ((cur.set i x).set (l.length - 1 - i) y)))) := .set p1.1 hfl _
      obtain ⟨hp', k1, k2, k3, k4⟩ := rev_loop l hl b k fl hfl m (i + 1) _ _ q (turned_step ht (by omega) hx hy) hb2 p2.1 (by omega)
      refine ⟨hp', ?_, k2, (p1.trans p2).trans k3, by rw [k4, setAt_eq, setAt_eq]; simp⟩
      have ej : (l.length : Int) - 1 - i = ((l.length - 1 - i : Nat) : Int) := by omega
      rw [show m + 1 + 1 + q = (m + 1 + q) + 1 by omega, ej,
        rev_step b l.length i ((l.length - 1 - i : Nat) : Int) (sp x) (sp y) (2 * i) (2 * (l.length - 1 - i)) hp _ _ k fl _ (by simp; omega) (idx_arr (by omega)) (idx_arr (by omega)) (load_sp hb hx) (load_sp hb hy)
          (store_sp x hb (by omega) hfl) (store_sp y hb1 (by simp; omega) hfl)]
      rw [wrap_in ⟨by omega, by omega⟩, wrap_in ⟨by omega, by omega⟩]
      have e1 : ((i : Int) + 1) = ((i + 1 : Nat) : Int) := by omega
      have e2 : ((l.length - 1 - i : Nat) : Int) - 1 = (l.length : Int) - 1 - ((i + 1 : Nat) : Int) := by omega
      rw [e1, e2]
      exact k1
end Go.Proofs.Ytfhemdhgpcpfaaa.E.S1
