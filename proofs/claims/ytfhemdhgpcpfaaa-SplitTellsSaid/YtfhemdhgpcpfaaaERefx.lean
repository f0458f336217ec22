/- The document's All at every range; its Behind. -/
import Derived.Test.YtfhemdhgpcpfaaaERef
set_option linter.unusedSimpArgs false
set_option linter.unusedVariables false
namespace Go.Proofs.Ytfhemdhgpcpfaaa.E.S1
open Go Go.Proofs E

theorem ty31 : cfg.ty 31 = some ⟨.slice 36, 1, 24, [.nilS], true⟩ := by kernel_rfl
theorem ty36 : cfg.ty 36 = some ⟨.struct [(0, 2), (1, 2)], 2, 16, [.int .i64 0, .int .i64 0], true⟩ := by kernel_rfl
theorem idx_lit31 {l : List AV} {i : Nat} {x : AV} {own : Own} (h : l[i]? = some x) : indexAddr cfg 31 (.v (.lit 2 own l)) (i : Int) = some (.v (.rop x)) := by
  unfold indexAddr
  have e1 : decide ((i : Int) < 0) = false := by simp
  simp [ty31, ty36, e1, getAt_eq, h]

/-- a row that grows -/
def Row (fl : Nat) (hp : List Blk) (out : AV) (M : List (Int × Int)) : Prop :=
  fl ≤ hp.length ∧ ((M = [] ∧ out = .nilS) ∨ (M ≠ [] ∧ ∃ g, out = .lit 2 (.fam g 0) (M.map sp) ∧ hp[g]? = some (.fam M.length) ∧ fl ≤ g))
def rowV : List (Int × Int) → AV
  | [] => .nilS
  | p :: l => .lit 2 .sealed ((p :: l).map sp)

theorem row_app {fl : Nat} {hp : List Blk} {out : AV} {M : List (Int × Int)} (h : Row fl hp out M) (hM : M.length ≤ 1000) (p : Int × Int) :
    ∃ out' hp', (∀ ts, builtinE cfg fl false ⟨ts, hp⟩ .append [31, 31] [out, .lit 2 .exact [sp p]] = some ⟨.v out', ts, hp', .fw⟩) ∧ Row fl hp' out' (M ++ [p]) := by
  obtain ⟨hf, ⟨rfl, rfl⟩ | ⟨h0, g, rfl, hg, hfl⟩⟩ := h
  · refine ⟨.lit 2 (.fam hp.length 0) [sp p], hp ++ [Blk.fam 1], fun ts => ?_, by simp; omega, .inr ⟨by simp, hp.length, rfl, by simp, hf⟩⟩
    have e2 : appElems cfg hp ⟨.struct [(0, 2), (1, 2)], 2, 16, [.int .i64 0, .int .i64 0], true⟩ 31 (.lit 2 .exact [sp p]) = some [sp p] := by
      unfold appElems
      rw [ty31]
      rfl
    simp only [builtinE, appendE, ty31, ty36, elems, e2]
    rfl
  · refine ⟨.lit 2 (.fam g 0) ((M ++ [p]).map sp), setAt hp g (.fam (M.length + 1)), fun ts => ?_, by rw [setAt_eq]; simpa using hf, .inr ⟨by simp, g, rfl, ?_, hfl⟩⟩
    · have e2 : appElems cfg hp ⟨.struct [(0, 2), (1, 2)], 2, 16, [.int .i64 0, .int .i64 0], true⟩ 31 (.lit 2 .exact [sp p]) = some [sp p] := by
        unfold appElems
        rw [ty31]
        rfl
      have e1 : elems hp 2 (.lit 2 (.fam g 0) (M.map sp)) = some (M.map sp) := rfl
      simp only [builtinE, appendE, ty31, ty36, e1, e2]
      have c1 : (!decide (((M.map sp).length + [sp p].length) * 16 ≤ 35184372088832) || (2 : Nat) == 0 || (16 : Nat) == 0 || !isSlc (.lit 2 (.fam g 0) (M.map sp))) = false := by
        simp [isSlc]; omega
      have c4 : ([sp p].length == 0) = false := rfl
      have c5 : (0 + (M.map sp).length == M.length && decide (fl ≤ g)) = true := by simpa using hfl
      have hg' : getAt hp g = some (.fam M.length) := by rw [getAt_eq]; exact hg
      simp only [c1, c4, cond_false, hg', c5, cond_true]
      simp [isArr]
    · rw [setAt_eq, List.getElem?_set_self (List.getElem?_eq_some_iff.1 hg).1]; simp

theorem row_shut {fl : Nat} {hp : List Blk} {out : AV} {M : List (Int × Int)} (h : Row fl hp out M) (d : Nat) : shutV hp fl (d + 3) out = some (rowV M) := by
  obtain ⟨-, ⟨rfl, rfl⟩ | ⟨h0, g, rfl, hg, hfl⟩⟩ := h
  · rfl
  · have e : decide (g < fl) = false := by simpa using hfl
    rw [shutV]
    simp only [shut_sps, e, cond_false]
    cases M with
    | nil => exact absurd rfl h0
    | cons p l => rfl

theorem k64 {f k w : Int} (hk : 0 ≤ k) (hk2 : k ≤ 100) (hw : 0 ≤ w) (hw2 : R64 w) (hkw : 0 ≤ k * w) (hf : R64 f) (h : R64 (f + k * w)) : K64 f k w = f + k * w := by
  obtain ⟨a1, a2⟩ := hw2
  obtain ⟨b1, b2⟩ := hf
  obtain ⟨c1, c2⟩ := h
  have e1 : U k = k := by rw [u_eq]; omega
  have e2 : U w = w := by rw [u_eq]; omega
  unfold K64
  rw [e1, e2]
  generalize k * w = x at *
  have e3 : U (U f + U x) = (f + x) % 18446744073709551616 := by simp only [u_eq]; omega
  rw [e3, i_eq]
  split <;> omega

theorem rall_loop (f t w : Int) (n : Nat) (hn : n ≤ 64) (asc : Bool) (L : List (Int × Int)) (hl : L.length = n) (hL : ∀ i, i < n → L[i]? = some (pk f t w n (kk asc n i))) (k fl : Nat) :
    ∀ (m i q : Nat) (out : AV) (hp : List Blk), i + m = n → Row fl hp out (L.take i) → ∃ out' hp', LQ k fl (m + 1 + q) (HQ f t w asc out n i hp) = some (.exit 0, ⟨slots 69 [(12, out')], hp'⟩) ∧ Row fl hp' out' L
  | 0, i, q, out, hp, hi, hr => by
    refine ⟨out, hp, ?_, by rw [List.take_of_length_le (by omega)] at hr; exact hr⟩
    rw [show 0 + 1 + q = q + 1 by omega]
    exact rall_end _ _ _ _ _ _ _ _ _ _ _ (by simp; omega)
  | m + 1, i, q, out, hp, hi, hr => by
    obtain ⟨out1, hp1, h1, h2⟩ := row_app hr (by simp; omega) (pk f t w n (kk asc n i))
    have e : L.take i ++ [pk f t w n (kk asc n i)] = L.take (i + 1) := by
      rw [List.take_add_one, hL i (by omega)]; rfl
    rw [e] at h2
    obtain ⟨out', hp', k1, k2⟩ := rall_loop f t w n hn asc L hl hL k fl m (i + 1) q out1 hp1 (by omega) h2
    refine ⟨out', hp', ?_, k2⟩
    rw [show m + 1 + 1 + q = (m + 1 + q) + 1 by omega, rall_step f t w n i asc out out1 hp hp1 k fl _ (by simp; omega) h1, wrap_in ⟨by omega, by omega⟩, show ((i : Int) + 1) = ((i + 1 : Nat) : Int) by omega]
    exact k1

theorem shut_two {hp : List Blk} {fl : Nat} {out : AV} {M : List (Int × Int)} (h : Row fl hp out M) (e : Int) :
    shutV hp fl 100000 (one [out, .int .i64 e]) = some (.tup [rowV M, .int .i64 e]) := by
  show shutV hp fl (99996 + 4) (.tup [out, .int .i64 e]) = _
  have h1 := row_shut h 99996
  have h2 : shutV hp fl (99996 + 3) (.int .i64 e) = some (.int .i64 e) := rfl
  rw [shutV]
  simp only [mapO, h1, h2, Option.map_some]

theorem allL_get {a b w : Int} (hb : R64 b) (ha : R64 a) (hw : R64 w) (h : ¬ bad a b w) (asc : Bool) : ∃ n : Nat, many a b w = n ∧ 1 ≤ n ∧ n ≤ 64 ∧ (allL a b w asc).length = n ∧ ∀ i, i < n → (allL a b w asc)[i]? = some (pk a b w n (kk asc n i)) := by
  unfold bad at h
  have h1 : ¬ a ≥ b := fun x => h (.inl x)
  have h2 : ¬ w < 1 := fun x => h (.inr (.inl x))
  have h3 : ¬ many a b w > 64 := fun x => h (.inr (.inr x))
  have q0 : 0 ≤ (b - a - 1) / w := Int.ediv_nonneg (by omega) (by omega)
  have q1 : (b - a - 1) / w * w ≤ b - a - 1 := Int.ediv_mul_le _ (by omega)
  have q2 : b - a - 1 < ((b - a - 1) / w + 1) * w := Int.lt_ediv_add_one_mul_self _ (by omega)
  obtain ⟨m, hm⟩ : ∃ m : Nat, (m : Int) = (b - a - 1) / w := ⟨((b - a - 1) / w).toNat, Int.toNat_of_nonneg q0⟩
  rw [← hm] at q1 q2
  have hmany : many a b w = (m : Int) + 1 := by unfold many; rw [← hm]
  have htn : (many a b w).toNat = m + 1 := by omega
  have exp : ((m : Int) + 1) * w = m * w + w := by rw [Int.add_mul]; omega
  have hP := pcs_get b w (by omega) m a (by omega) (by omega)
  have hlen : (pcs a b w (m + 1)).length = m + 1 := pcs_len b w (m + 1) a
  have hpk : ∀ i : Nat, i < m + 1 → pk a b w ((m + 1 : Nat) : Int) i = (pt a b w (m + 1) i, pt a b w (m + 1) (i + 1)) := fun i hi => by
    have k0 : 0 ≤ (i : Int) * w := Int.mul_nonneg (by omega) (by omega)
    have k1 : (i : Int) * w ≤ m * w := Int.mul_le_mul_of_nonneg_right (by omega) (by omega)
    have hb' := hb
    have ha' := ha
    obtain ⟨b1, b2⟩ := hb'
    obtain ⟨a1, a2⟩ := ha'
    have e1 : K64 a i w = a + i * w := k64 (by omega) (by omega) (by omega) hw k0 ha ⟨by omega, by omega⟩
    have e2 : IntKind.i64.wrap (((m + 1 : Nat) : Int) - 1) = m := by rw [wrap_in ⟨by omega, by omega⟩]; omega
    unfold pk pt
    rw [e1, e2, if_pos hi]
    by_cases hl : i + 1 < m + 1
    · have k2 : ((i + 1 : Nat) : Int) * w ≤ m * w := Int.mul_le_mul_of_nonneg_right (by omega) (by omega)
      have k3 : 0 ≤ ((i + 1 : Nat) : Int) * w := Int.mul_nonneg (by omega) (by omega)
      have e3 : IntKind.i64.wrap ((i : Int) + 1) = ((i + 1 : Nat) : Int) := by rw [wrap_in ⟨by omega, by omega⟩]; omega
      rw [if_pos (by omega), if_pos hl, e3, k64 (by omega) (by omega) (by omega) hw k3 ha ⟨by omega, by omega⟩]
    · rw [if_neg (by omega), if_neg hl]
  refine ⟨m + 1, by rw [hmany]; rfl, by omega, by omega, ?_, fun i hi => ?_⟩
  · unfold allL; split <;> simp [htn, hlen]
  · cases asc with
    | true =>
      simp only [allL, htn, if_true, kk, cond_true rfl]
      rw [hpk i hi]; exact hP i hi
    | false =>
      simp only [allL, htn, Bool.false_eq_true, if_false, kk, cond_false rfl]
      have e : IntKind.i64.wrap (IntKind.i64.wrap (((m + 1 : Nat) : Int) - 1) - (i : Int)) = ((m - i : Nat) : Int) := by
        rw [wrap_in (n := ((m + 1 : Nat) : Int) - 1) ⟨by omega, by omega⟩, wrap_in ⟨by omega, by omega⟩]; omega
      rw [e, hpk _ (by omega), List.getElem?_reverse (by omega), hlen, show m + 1 - 1 - i = m - i by omega]
      exact hP _ (by omega)

theorem rall_good {a b w : Int} (ha : R64 a) (hb : R64 b) (hw : R64 w) (h : ¬ bad a b w) (asc : Bool) (k fl : Nat) (hp : List Blk) (hk : 100 ≤ k) :
    evCall cfg (k + 2) fl 12 [.int .i64 a, .int .i64 b, .int .i64 w, .bool asc] hp = some (.tup [.lit 2 .sealed ((allL a b w asc).map sp), .int .i64 0], hp) := by
  obtain ⟨n, h1, h2, h3, h4, h5⟩ := allL_get hb ha hw h asc
  obtain ⟨out', hp', k1, k2⟩ := rall_loop a b w n h3 asc _ h4 h5 (k + 1) hp.length n 0 (k + 1 - n - 1) .nilS hp (by omega) ⟨Nat.le_refl _, .inl ⟨rfl, rfl⟩⟩
  rw [show n + 1 + (k + 1 - n - 1) = k + 1 by omega] at k1
  have hm := rm_good ha hb hw k hp.length hp h
  rw [h1] at hm
  have hs := shut_two k2 0
  have hne : rowV (allL a b w asc) = .lit 2 .sealed ((allL a b w asc).map sp) := by
    generalize hA : allL a b w asc = A at *
    cases A with
    | nil => simp at h4; omega
    | cons p l => rfl
  rw [hne] at hs
  exact evPure (fi := (FI.of Try.f12).getD ⟨0, [], .skip⟩) [(1, 3, .res (.tup [.int .i64 n, .int .i64 0]) hp), (6, 1000000, .loop (.exit 0) ⟨slots 69 [(12, out')], hp'⟩)]
    (hpF := hp') (rs := [out', .int .i64 0])
    (φs := [evCall cfg (k + 1) hp.length 10 [.int .i64 a, .int .i64 b, .int .i64 w] hp = some (.tup [.int .i64 n, .int .i64 0], hp),
      loopN cfg (evCall cfg (k + 1) hp.length) hp.length 12 (k + 1) (bodyOf Try.f12 6) 6 (k + 1) (HQ a b w asc .nilS n 0 hp) = some (.exit 0, ⟨slots 69 [(12, out')], hp'⟩)])
    (by kernel_rfl) (by kernel_rfl) (by kernel_rfl) (by kernel_rfl) ⟨hm, k1⟩ hs

/-! Behind -/
def HB (asc : Bool) (t : Int) (l : List AV) (out : AV) (i : Int) (hp : List Blk) : St := ⟨slots 46 [(0, .bool asc), (1, .int .i64 t), (2, .lit 2 .sealed l), (7, out), (8, .int .i64 i)], hp⟩
noncomputable abbrev LB (k fl : Nat) := loopN cfg (evCall cfg k fl) fl 14 k (bodyOf Try.f14 3) 3
theorem rbh_end (asc : Bool) (t : Int) (l : List AV) (out : AV) (i : Int) (hp : List Blk) (k fl m : Nat) (h : decide (i < (l.length : Int)) = false) : LB k fl (m + 1) (HB asc t l out i hp) = some (.exit 0, ⟨slots 46 [(7, out)], hp⟩) :=
  loop_exit (π := [(3, 3, .val (.bool false))]) (φs := [some (AV.bool (decide (i < (l.length : Int)))) = some (.bool false)]) (by kernel_rfl) (fun h => by cases h) (by rw [h]; rfl)
theorem rbh_drop (asc : Bool) (t : Int) (l : List AV) (out_ : AV) (i : Int) (p : Int × Int) (hp : List Blk) (k fl m : Nat) (h : decide (i < (l.length : Int)) = true) (hi : indexAddr cfg 31 (.v (.lit 2 .sealed l)) i = some (.v (.rop (sp p)))) (ho : out asc t p = true) :
    LB k fl (m + 1) (HB asc t l out_ i hp) = LB k fl m (HB asc t l out_ (IntKind.i64.wrap (i + 1)) hp) := by
  cases asc with
  | true =>
    have h1 : decide (p.2 > t) = false := by simp only [out, cond_true rfl] at ho; simp at ho ⊢; omega
    exact loop_step (π := [(3, 3, .val (.bool true)), (5, 4, .val (.rop (sp p))), (5, 8, .val (.bool false))])
      (φs := [some (AV.bool (decide (i < (l.length : Int)))) = some (.bool true), indexAddr cfg 31 (.v (.lit 2 .sealed l)) i = some (.v (.rop (sp p))), some (AV.bool (decide (p.2 > t))) = some (.bool false)])
      (by kernel_rfl) (by rw [h, h1]; exact ⟨rfl, hi, rfl⟩)
  | false =>
    have h1 : decide (p.1 ≤ t) = false := by simp only [out, cond_false rfl] at ho; simp at ho ⊢; omega
    exact loop_step (π := [(3, 3, .val (.bool true)), (5, 16, .val (.rop (sp p))), (5, 20, .val (.bool false))])
      (φs := [some (AV.bool (decide (i < (l.length : Int)))) = some (.bool true), indexAddr cfg 31 (.v (.lit 2 .sealed l)) i = some (.v (.rop (sp p))), some (AV.bool (decide (p.1 ≤ t))) = some (.bool false)])
      (by kernel_rfl) (by rw [h, h1]; exact ⟨rfl, hi, rfl⟩)
theorem rbh_keep (asc : Bool) (t : Int) (l : List AV) (out_ out' : AV) (i : Int) (p : Int × Int) (hp hp' : List Blk) (k fl m : Nat) (h : decide (i < (l.length : Int)) = true) (hi : indexAddr cfg 31 (.v (.lit 2 .sealed l)) i = some (.v (.rop (sp p)))) (ho : out asc t p = false)
    (ha : ∀ ts, builtinE cfg fl false ⟨ts, hp⟩ .append [31, 31] [out_, .lit 2 .exact [sp p]] = some ⟨.v out', ts, hp', .fw⟩) :
    LB k fl (m + 1) (HB asc t l out_ i hp) = LB k fl m (HB asc t l out' (IntKind.i64.wrap (i + 1)) hp') := by
  cases asc with
  | true =>
    have h1 : decide (p.2 > t) = true := by simp only [out, cond_true rfl] at ho; simp at ho ⊢; omega
    exact loop_step (π := [(3, 3, .val (.bool true)), (5, 4, .val (.rop (sp p))), (5, 8, .val (.bool true)), (6, 3, .val (.rop (sp p))), (6, 6, .mem out' hp' .fw)])
      (φs := [some (AV.bool (decide (i < (l.length : Int)))) = some (.bool true), indexAddr cfg 31 (.v (.lit 2 .sealed l)) i = some (.v (.rop (sp p))), some (AV.bool (decide (p.2 > t))) = some (.bool true), indexAddr cfg 31 (.v (.lit 2 .sealed l)) i = some (.v (.rop (sp p))),
        ∀ ts, builtinE cfg fl false ⟨ts, hp⟩ .append [31, 31] [out_, .lit 2 .exact [sp p]] = some ⟨.v out', ts, hp', .fw⟩])
      (by kernel_rfl) (by rw [h, h1]; exact ⟨rfl, hi, rfl, hi, ha⟩)
  | false =>
    have h1 : decide (p.1 ≤ t) = true := by simp only [out, cond_false rfl] at ho; simp at ho ⊢; omega
    exact loop_step (π := [(3, 3, .val (.bool true)), (5, 16, .val (.rop (sp p))), (5, 20, .val (.bool true)), (6, 3, .val (.rop (sp p))), (6, 6, .mem out' hp' .fw)])
      (φs := [some (AV.bool (decide (i < (l.length : Int)))) = some (.bool true), indexAddr cfg 31 (.v (.lit 2 .sealed l)) i = some (.v (.rop (sp p))), some (AV.bool (decide (p.1 ≤ t))) = some (.bool true), indexAddr cfg 31 (.v (.lit 2 .sealed l)) i = some (.v (.rop (sp p))),
        ∀ ts, builtinE cfg fl false ⟨ts, hp⟩ .append [31, 31] [out_, .lit 2 .exact [sp p]] = some ⟨.v out', ts, hp', .fw⟩])
      (by kernel_rfl) (by rw [h, h1]; exact ⟨rfl, hi, rfl, hi, ha⟩)

theorem rbh_loop (asc : Bool) (t : Int) (L : List (Int × Int)) (hl : L.length ≤ 64) (k fl : Nat) :
    ∀ (R : List (Int × Int)) (i q : Nat) (out_ : AV) (hp : List Blk) (M : List (Int × Int)), L.drop i = R → i ≤ L.length → M.length ≤ i → Row fl hp out_ M → ∃ out' hp', LB k fl (R.length + 1 + q) (HB asc t (L.map sp) out_ i hp) = some (.exit 0, ⟨slots 46 [(7, out')], hp'⟩) ∧ Row fl hp' out' (M ++ kept asc t R)
  | [], i, q, out_, hp, M, hd, hi, hM, hr => by
    have : L.length ≤ i := by simpa using hd
    refine ⟨out_, hp, ?_, by simpa [kept] using hr⟩
    rw [show ([] : List (Int × Int)).length + 1 + q = q + 1 by simp; omega]
    exact rbh_end _ _ _ _ _ _ _ _ _ (by simp; omega)
  | p :: R, i, q, out_, hp, M, hd, hi, hM, hr => by
    have hlt : i < L.length := by
      rcases Nat.lt_or_ge i L.length with h | h
      · exact h
      · rw [List.drop_eq_nil_of_le h] at hd; cases hd
    have hp' : L[i]? = some p := by
      have := congrArg (fun l => l[0]?) hd
      simpa using this
    have hR : L.drop (i + 1) = R := by
      rw [← List.drop_drop, hd]; rfl
    have hx : indexAddr cfg 31 (.v (.lit 2 .sealed (L.map sp))) (i : Int) = some (.v (.rop (sp p))) := idx_lit31 (by rw [List.getElem?_map, hp']; rfl)
    have hin : decide ((i : Int) < ((L.map sp).length : Int)) = true := by simp; omega
    have ei : IntKind.i64.wrap ((i : Int) + 1) = ((i + 1 : Nat) : Int) := by rw [wrap_in ⟨by omega, by omega⟩]; omega
    rw [show (p :: R).length + 1 + q = (R.length + 1 + q) + 1 by simp; omega]
    cases ho : out asc t p with
    | true =>
      obtain ⟨out', hp2, k1, k2⟩ := rbh_loop asc t L hl k fl R (i + 1) q out_ hp M hR (by omega) (by omega) hr
      refine ⟨out', hp2, ?_, by rw [kept_t ho]; exact k2⟩
      rw [rbh_drop asc t _ out_ i p hp k fl _ hin hx ho, ei]
      exact k1
    | false =>
      obtain ⟨out1, hp1, h1, h2⟩ := row_app hr (by omega) p
      obtain ⟨out', hp2, k1, k2⟩ := rbh_loop asc t L hl k fl R (i + 1) q out1 hp1 (M ++ [p]) hR (by omega) (by simp; omega) h2
      refine ⟨out', hp2, ?_, by rw [kept_f ho]; simpa using k2⟩
      rw [rbh_keep asc t _ out_ out1 i p hp hp1 k fl _ hin hx ho h1, ei]
      exact k1

theorem rbh_ev (asc : Bool) (t : Int) (L : List (Int × Int)) (hl : L.length ≤ 64) (k fl : Nat) (hk : 100 ≤ k) (hp : List Blk) :
    evCall cfg (k + 1) fl 14 [.bool asc, .int .i64 t, .lit 2 .sealed (L.map sp)] hp = some (rowV (kept asc t L), hp) := by
  obtain ⟨out', hp', k1, k2⟩ := rbh_loop asc t L hl k hp.length L 0 (k - L.length - 1) .nilS hp [] rfl (by omega) (by simp) ⟨Nat.le_refl _, .inl ⟨rfl, rfl⟩⟩
  rw [show L.length + 1 + (k - L.length - 1) = k by omega] at k1
  have hs : shutV hp' hp.length 100000 (one [out']) = some (rowV (kept asc t L)) := by
    exact row_shut k2 99997
  exact evPure (fi := (FI.of Try.f14).getD ⟨0, [], .skip⟩) [(3, 1000000, .loop (.exit 0) ⟨slots 46 [(7, out')], hp'⟩)]
    (hpF := hp') (rs := [out'])
    (φs := [loopN cfg (evCall cfg k hp.length) hp.length 14 k (bodyOf Try.f14 3) 3 k (HB asc t (L.map sp) .nilS 0 hp) = some (.exit 0, ⟨slots 46 [(7, out')], hp'⟩)])
    (by kernel_rfl) (by kernel_rfl) (by kernel_rfl) (by kernel_rfl) k1 hs
theorem rbh_nil (asc : Bool) (t : Int) (k fl : Nat) (hp : List Blk) : evCall cfg (k + 2) fl 14 [.bool asc, .int .i64 t, .nilS] hp = some (.nilS, hp) := by
  kernel_rfl
end Go.Proofs.Ytfhemdhgpcpfaaa.E.S1
