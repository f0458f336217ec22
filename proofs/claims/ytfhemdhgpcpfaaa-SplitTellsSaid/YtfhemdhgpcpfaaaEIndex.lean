/- slices.Clone, IndexFunc and DeleteFunc of rows of pieces, and split.Behind. -/
import Derived.Test.YtfhemdhgpcpfaaaEAllx
set_option linter.unusedSimpArgs false
set_option linter.unusedVariables false
namespace Go.Proofs.Ytfhemdhgpcpfaaa.E.S1
open Go Go.Proofs E

/-- is a piece to be left out? -/
def out (asc : Bool) (ts : Int) (p : Int × Int) : Bool := bif asc then decide (p.2 ≤ ts) else decide (p.1 > ts)
def del (c d : Nat) : AV := .fn (.func 18) [] [.ptr c 0, .ptr d 0]

theorem ty4 : cfg.ty 4 = some ⟨.bool, 1, 1, [.bool false], true⟩ := by kernel_rfl
theorem ty2' : cfg.ty 2 = some ⟨.int .i64, 1, 8, [.int .i64 0], true⟩ := by kernel_rfl

theorem load_b {hp : List Blk} {c : Nat} {x : Bool} (h : hp[c]? = some (.cells [.bool x])) (ts : List TV) : loadAt cfg ⟨ts, hp⟩ 4 (.v (.ptr c 0)) = some ⟨.v (.bool x), ts, hp, .hr⟩ := by
  have hbc : blkCells hp c = some [.bool x] := by unfold blkCells; rw [getAt_eq, h]
  unfold loadAt
  simp only [ty4, hbc]
  rfl
theorem load_i {hp : List Blk} {c : Nat} {x : Int} (h : hp[c]? = some (.cells [.int .i64 x])) (ts : List TV) : loadAt cfg ⟨ts, hp⟩ 2 (.v (.ptr c 0)) = some ⟨.v (.int .i64 x), ts, hp, .hr⟩ := by
  have hbc : blkCells hp c = some [.int .i64 x] := by unfold blkCells; rw [getAt_eq, h]
  unfold loadAt
  simp only [ty2', hbc]
  rfl

theorem del_ev (asc : Bool) (ts : Int) (p : Int × Int) (c d k fl : Nat) (hp : List Blk) (h1 : hp[c]? = some (.cells [.bool asc])) (h2 : hp[d]? = some (.cells [.int .i64 ts])) :
    evCall cfg (k + 1) fl 18 [sp p, .ptr c 0, .ptr d 0] hp = some (.bool (out asc ts p), hp) := by
  cases asc with
  | true => exact evP [(1, 0, .mem (.bool true) hp .hr), (2, 2, .mem (.int .i64 ts) hp .hr)] (φs := [∀ ts', loadAt cfg ⟨ts', hp⟩ 4 (.v (.ptr c 0)) = some ⟨.v (.bool true), ts', hp, .hr⟩, ∀ ts', loadAt cfg ⟨ts', hp⟩ 2 (.v (.ptr d 0)) = some ⟨.v (.int .i64 ts), ts', hp, .hr⟩]) (by kernel_rfl) ⟨load_b h1, load_i h2⟩
  | false => exact evP [(1, 0, .mem (.bool false) hp .hr), (3, 2, .mem (.int .i64 ts) hp .hr)] (φs := [∀ ts', loadAt cfg ⟨ts', hp⟩ 4 (.v (.ptr c 0)) = some ⟨.v (.bool false), ts', hp, .hr⟩, ∀ ts', loadAt cfg ⟨ts', hp⟩ 2 (.v (.ptr d 0)) = some ⟨.v (.int .i64 ts), ts', hp, .hr⟩]) (by kernel_rfl) ⟨load_b h1, load_i h2⟩

/-! IndexFunc -/
def HI (b len c d : Nat) (i : Int) (hp : List Blk) : St := ⟨slots 19 [(0, .arr 2 b 0 len), (1, del c d), (7, .int .i64 len), (8, .int .i64 i)], hp⟩
noncomputable abbrev LI (k fl : Nat) := loopN cfg (evCall cfg k fl) fl 19 k (bodyOf Try.f19 2) 2

theorem idx_end (b len c d : Nat) (i : Int) (hp : List Blk) (k fl m : Nat) (h : decide (i < (len : Int)) = false) : LI k fl (m + 1) (HI b len c d i hp) = some (.exit 0, ⟨slots 19 [], hp⟩) :=
  loop_exit (π := [(2, 0, .val (.bool false))]) (φs := [some (AV.bool (decide (i < (len : Int)))) = some (.bool false)]) (by kernel_rfl) (fun h => by cases h) (by rw [h]; rfl)

theorem idx_step (b len c d : Nat) (i : Int) (o : Nat) (p : Int × Int) (hp : List Blk) (k fl m : Nat) (h : decide (i < (len : Int)) = true) (hi : indexAddr cfg 28 (.v (.arr 2 b 0 len)) i = some (.v (.ptr b o)))
    (hx : ∀ ts, loadAt cfg ⟨ts, hp⟩ 35 (.v (.ptr b o)) = some ⟨.v (sp p), ts, hp, .hr⟩) (hc : evCall cfg k fl 18 [sp p, .ptr c 0, .ptr d 0] hp = some (.bool false, hp)) :
    LI k fl (m + 1) (HI b len c d i hp) = LI k fl m (HI b len c d (IntKind.i64.wrap (i + 1)) hp) :=
  loop_step (π := [(2, 0, .val (.bool true)), (4, 3, .val (.ptr b o)), (4, 4, .mem (sp p) hp .hr), (4, 5, .res (.bool false) hp)])
    (φs := [some (AV.bool (decide (i < (len : Int)))) = some (.bool true), indexAddr cfg 28 (.v (.arr 2 b 0 len)) i = some (.v (.ptr b o)), ∀ ts, loadAt cfg ⟨ts, hp⟩ 35 (.v (.ptr b o)) = some ⟨.v (sp p), ts, hp, .hr⟩,
      evCall cfg k fl 18 [sp p, .ptr c 0, .ptr d 0] hp = some (.bool false, hp)]) (by kernel_rfl) (by rw [h]; exact ⟨rfl, hi, hx, hc⟩)

theorem idx_found (b len c d : Nat) (i : Int) (o : Nat) (p : Int × Int) (hp : List Blk) (k fl m : Nat) (h : decide (i < (len : Int)) = true) (hi : indexAddr cfg 28 (.v (.arr 2 b 0 len)) i = some (.v (.ptr b o)))
    (hx : ∀ ts, loadAt cfg ⟨ts, hp⟩ 35 (.v (.ptr b o)) = some ⟨.v (sp p), ts, hp, .hr⟩) (hc : evCall cfg k fl 18 [sp p, .ptr c 0, .ptr d 0] hp = some (.bool true, hp)) :
    LI k fl (m + 1) (HI b len c d i hp) = some (.ret, ⟨slots 19 [(4, .int .i64 i)], hp⟩) :=
  loop_exit (π := [(2, 0, .val (.bool true)), (4, 3, .val (.ptr b o)), (4, 4, .mem (sp p) hp .hr), (4, 5, .res (.bool true) hp)])
    (φs := [some (AV.bool (decide (i < (len : Int)))) = some (.bool true), indexAddr cfg 28 (.v (.arr 2 b 0 len)) i = some (.v (.ptr b o)), ∀ ts, loadAt cfg ⟨ts, hp⟩ 35 (.v (.ptr b o)) = some ⟨.v (sp p), ts, hp, .hr⟩,
      evCall cfg k fl 18 [sp p, .ptr c 0, .ptr d 0] hp = some (.bool true, hp)]) (by kernel_rfl) (fun h => by cases h) (by rw [h]; exact ⟨rfl, hi, hx, hc⟩)

/-- the first that is to be left out -/
def fst (f : Int × Int → Bool) : List (Int × Int) → Option Nat
  | [] => none
  | p :: l => bif f p then some 0 else (fst f l).map (· + 1)

theorem idx_loop (asc : Bool) (ts : Int) (b c d k fl : Nat) (hp : List Blk) (L : List (Int × Int)) (hL : L.length ≤ 64) (hb : hp[b]? = some (.cells (cel L))) (h1 : hp[c]? = some (.cells [.bool asc])) (h2 : hp[d]? = some (.cells [.int .i64 ts])) :
    ∀ (R : List (Int × Int)) (i q : Nat), L.drop i = R → i ≤ L.length → LI (k + 1) fl (R.length + 1 + q) (HI b L.length c d i hp) = match fst (out asc ts) R with
      | none => some (.exit 0, ⟨slots 19 [], hp⟩)
      | some j => some (.ret, ⟨slots 19 [(4, .int .i64 ((i + j : Nat) : Int))], hp⟩)
  | [], i, q, hd, hi => by
    have : L.length ≤ i := by simpa using hd
    rw [show ([] : List (Int × Int)).length + 1 + q = q + 1 by simp; omega, idx_end _ _ _ _ _ _ _ _ _ (by simp; omega)]
    rfl
  | p :: R, i, q, hd, hi => by
    have hlt : i < L.length := by
      rcases Nat.lt_or_ge i L.length with h | h
      · exact h
      · rw [List.drop_eq_nil_of_le h] at hd; cases hd
    have hp' : L[i]? = some p := by
      have := congrArg (fun l => l[0]?) hd
      simpa using this
    have hR : L.drop (i + 1) = R := by
      rw [← List.drop_drop, hd]; rfl
    have hc := del_ev asc ts p c d k fl hp h1 h2
    rw [show (p :: R).length + 1 + q = (R.length + 1 + q) + 1 by simp; omega]
    cases ho : out asc ts p with
    | true =>
      rw [ho] at hc
      rw [idx_found b L.length c d i (2 * i) p hp (k + 1) fl _ (by simpa using hlt) (idx_arr hlt) (load_sp hb hp') hc]
      simp [fst, ho]
    | false =>
      rw [ho] at hc
      rw [idx_step b L.length c d i (2 * i) p hp (k + 1) fl _ (by simpa using hlt) (idx_arr hlt) (load_sp hb hp') hc, wrap_in ⟨by omega, by omega⟩]
      have := idx_loop asc ts b c d k fl hp L hL hb h1 h2 R (i + 1) q hR (by omega)
      have e : ((i : Int) + 1) = ((i + 1 : Nat) : Int) := by omega
      rw [e, this]
      simp only [fst, ho, cond_false rfl]
      cases fst (out asc ts) R with
      | none => rfl
      | some j => simp only [Option.map_some]; rw [show i + 1 + j = i + (j + 1) by omega]

theorem idx_ev (asc : Bool) (ts : Int) (b c d k fl : Nat) (hp : List Blk) (L : List (Int × Int)) (hL : L.length ≤ 64) (hk : 100 ≤ k) (hb : hp[b]? = some (.cells (cel L))) (h1 : hp[c]? = some (.cells [.bool asc])) (h2 : hp[d]? = some (.cells [.int .i64 ts])) :
    evCall cfg (k + 1) fl 19 [.arr 2 b 0 L.length, del c d] hp = some (.int .i64 (match fst (out asc ts) L with | none => -1 | some j => (j : Int)), hp) := by
  have := idx_loop asc ts b c d (k - 1) hp.length hp L hL hb h1 h2 L 0 (k - L.length - 1) rfl (by omega)
  rw [show L.length + 1 + (k - L.length - 1) = k by omega, show k - 1 + 1 = k by omega] at this
  cases hf : fst (out asc ts) L with
  | none =>
    rw [hf] at this
    exact evP [(2, 1000000, .loop (.exit 0) ⟨slots 19 [], hp⟩)] (φs := [loopN cfg (evCall cfg k hp.length) hp.length 19 k (bodyOf Try.f19 2) 2 k (HI b L.length c d 0 hp) = some (.exit 0, ⟨slots 19 [], hp⟩)]) (by kernel_rfl) this
  | some j =>
    rw [hf] at this
    simp only [Nat.zero_add] at this
    exact evP [(2, 1000000, .loop .ret ⟨slots 19 [(4, .int .i64 (j : Int))], hp⟩)] (φs := [loopN cfg (evCall cfg k hp.length) hp.length 19 k (bodyOf Try.f19 2) 2 k (HI b L.length c d 0 hp) = some (.ret, ⟨slots 19 [(4, .int .i64 (j : Int))], hp⟩)]) (by kernel_rfl) this
end Go.Proofs.Ytfhemdhgpcpfaaa.E.S1
