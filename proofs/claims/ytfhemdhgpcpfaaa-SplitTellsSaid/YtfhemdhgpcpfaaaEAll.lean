/- split.All at every right range. -/
import Derived.Test.YtfhemdhgpcpfaaaEMany
set_option linter.unusedSimpArgs false
set_option linter.unusedVariables false
namespace Go.Proofs.Ytfhemdhgpcpfaaa.E.S1
open Go Go.Proofs E

noncomputable def bodyOf (f : Func) (r : Nat) : Code := match f.body with
  | some c => (match loopAt r c with | some b => b | none => .skip)
  | none => .skip

/-- a piece -/
def sp (p : Int × Int) : AV := .agg [.int .i64 p.1, .int .i64 p.2]
/-- its cells -/
def cel : List (Int × Int) → List AV
  | [] => []
  | p :: l => .int .i64 p.1 :: .int .i64 p.2 :: cel l

def HA (f t w : Int) (asc : Bool) (out : AV) (n i : Int) (hp : List Blk) : St := ⟨slots 52 [(0, .int .i64 f), (1, .int .i64 t), (2, .int .i64 w), (3, .bool asc), (12, out), (24, .int .i64 n), (25, .int .i64 i)], hp⟩

noncomputable abbrev LA (k fl : Nat) := loopN cfg (evCall cfg k fl) fl 11 k (bodyOf Try.f11 6) 6

theorem all_end (f t w n i : Int) (asc : Bool) (out : AV) (hp : List Blk) (k fl m : Nat) (h : decide (i < n) = false) :
    LA k fl (m + 1) (HA f t w asc out n i hp) = some (.exit 0, ⟨slots 52 [(3, .bool asc), (12, out)], hp⟩) :=
  loop_exit (π := [(6, 0, .val (.bool false))]) (φs := [some (AV.bool (decide (i < n))) = some (.bool false)]) (by kernel_rfl) (fun h => by cases h) (by rw [h]; rfl)

theorem all_step1 (f t w n i : Int) (asc : Bool) (hp : List Blk) (k fl m : Nat) (h : decide (i < n) = true) (h2 : decide (U (U t - U f) > U w) = true) :
    LA k fl (m + 1) (HA f t w asc .nilS n i hp) = LA k fl m (HA (IntKind.i64.wrap (f + w)) t w asc (.arr 2 hp.length 0 1) n (IntKind.i64.wrap (i + 1)) (hp ++ [.cells [.int .i64 f, .int .i64 (IntKind.i64.wrap (f + w))]])) :=
  loop_step (π := [(6, 0, .val (.bool true)), (8, 7, .val (.bool true))]) (φs := [some (AV.bool (decide (i < n))) = some (.bool true), some (AV.bool (decide (U (U t - U f) > U w))) = some (.bool true)]) (by kernel_rfl) (by rw [h, h2]; exact ⟨rfl, rfl⟩)
theorem all_step1' (f t w n i : Int) (asc : Bool) (hp : List Blk) (k fl m : Nat) (h : decide (i < n) = true) (h2 : decide (U (U t - U f) > U w) = false) :
    LA k fl (m + 1) (HA f t w asc .nilS n i hp) = LA k fl m (HA t t w asc (.arr 2 hp.length 0 1) n (IntKind.i64.wrap (i + 1)) (hp ++ [.cells [.int .i64 f, .int .i64 t]])) :=
  loop_step (π := [(6, 0, .val (.bool true)), (8, 7, .val (.bool false))]) (φs := [some (AV.bool (decide (i < n))) = some (.bool true), some (AV.bool (decide (U (U t - U f) > U w))) = some (.bool false)]) (by kernel_rfl) (by rw [h, h2]; exact ⟨rfl, rfl⟩)

theorem all_step2 (f t w n i : Int) (asc : Bool) (b c l : Nat) (hp hp' : List Blk) (k fl m : Nat) (h : decide (i < n) = true) (h2 : decide (U (U t - U f) > U w) = true)
    (h3 : ∀ ts, builtinE cfg fl true ⟨ts, hp⟩ .append [28, 28] [.arr 2 b 0 l, .lit 2 .exact [sp (f, IntKind.i64.wrap (f + w))]] = some ⟨.v (.arr 2 c 0 (l + 1)), ts, hp', .hw⟩) :
    LA k fl (m + 1) (HA f t w asc (.arr 2 b 0 l) n i hp) = LA k fl m (HA (IntKind.i64.wrap (f + w)) t w asc (.arr 2 c 0 (l + 1)) n (IntKind.i64.wrap (i + 1)) hp') :=
  loop_step (π := [(6, 0, .val (.bool true)), (8, 7, .val (.bool true)), (10, 5, .mem (.arr 2 c 0 (l + 1)) hp' .hw)])
    (φs := [some (AV.bool (decide (i < n))) = some (.bool true), some (AV.bool (decide (U (U t - U f) > U w))) = some (.bool true), ∀ ts, builtinE cfg fl true ⟨ts, hp⟩ .append [28, 28] [.arr 2 b 0 l, .lit 2 .exact [sp (f, IntKind.i64.wrap (f + w))]] = some ⟨.v (.arr 2 c 0 (l + 1)), ts, hp', .hw⟩])
    (by kernel_rfl) (by rw [h, h2]; exact ⟨rfl, rfl, h3⟩)

theorem all_step2' (f t w n i : Int) (asc : Bool) (b c l : Nat) (hp hp' : List Blk) (k fl m : Nat) (h : decide (i < n) = true) (h2 : decide (U (U t - U f) > U w) = false)
    (h3 : ∀ ts, builtinE cfg fl true ⟨ts, hp⟩ .append [28, 28] [.arr 2 b 0 l, .lit 2 .exact [sp (f, t)]] = some ⟨.v (.arr 2 c 0 (l + 1)), ts, hp', .hw⟩) :
    LA k fl (m + 1) (HA f t w asc (.arr 2 b 0 l) n i hp) = LA k fl m (HA t t w asc (.arr 2 c 0 (l + 1)) n (IntKind.i64.wrap (i + 1)) hp') :=
  loop_step (π := [(6, 0, .val (.bool true)), (8, 7, .val (.bool false)), (10, 5, .mem (.arr 2 c 0 (l + 1)) hp' .hw)])
    (φs := [some (AV.bool (decide (i < n))) = some (.bool true), some (AV.bool (decide (U (U t - U f) > U w))) = some (.bool false), ∀ ts, builtinE cfg fl true ⟨ts, hp⟩ .append [28, 28] [.arr 2 b 0 l, .lit 2 .exact [sp (f, t)]] = some ⟨.v (.arr 2 c 0 (l + 1)), ts, hp', .hw⟩])
    (by kernel_rfl) (by rw [h, h2]; exact ⟨rfl, rfl, h3⟩)

/-! ### rows of pieces -/
theorem cel_len : ∀ l : List (Int × Int), (cel l).length = 2 * l.length
  | [] => rfl
  | _ :: l => by simp [cel, cel_len l]; omega
theorem cel_app : ∀ l m : List (Int × Int), cel (l ++ m) = cel l ++ cel m
  | [], _ => rfl
  | p :: l, m => by simp [cel, cel_app l m]
theorem chunk_cel : ∀ l : List (Int × Int), chunk 2 l.length (cel l) = some (l.map sp)
  | [] => rfl
  | p :: l => by
    rw [List.length_cons, chunk]
    have : (bif (2 : Nat) == 1 then (cel (p :: l)).head? else (let c := (cel (p :: l)).take 2; bif c.length == 2 then some (.agg c) else none)) = some (sp p) := rfl
    rw [this]
    dsimp only
    have : (cel (p :: l)).drop 2 = cel l := rfl
    rw [this, chunk_cel l]
    rfl
theorem flat_sp : ∀ l : List (Int × Int), flat (l.map sp) = cel l
  | [] => rfl
  | p :: l => by simp [flat, flat_sp l, sp, cel, AV.cells]

theorem ty28 : cfg.ty 28 = some ⟨.slice 35, 1, 24, [.nilS], true⟩ := by kernel_rfl
theorem ty35 : cfg.ty 35 = some ⟨.struct [(0, 2), (1, 2)], 2, 16, [.int .i64 0, .int .i64 0], true⟩ := by kernel_rfl

/-- an append to a row that is full -/
theorem app_sp {fl : Nat} {hp : List Blk} {b : Nat} {l : List (Int × Int)} (hb : hp[b]? = some (.cells (cel l))) (hfl : fl ≤ b) (hl : l.length ≤ 1000) (h0 : l ≠ []) (p : Int × Int) (ts : List TV) :
    builtinE cfg fl true ⟨ts, hp⟩ .append [28, 28] [.arr 2 b 0 l.length, .lit 2 .exact [sp p]] = some ⟨.v (.arr 2 hp.length 0 (l.length + 1)), ts, setAt hp b .dead ++ [.cells (cel (l ++ [p]))], .hw⟩ := by
  have hbc : blkCells hp b = some (cel l) := by
    unfold blkCells; rw [getAt_eq, hb]
  have e1 : elems hp 2 (.arr 2 b 0 l.length) = some (l.map sp) := by
    simp only [elems, hbc, beq_self_eq_true, cond_true, List.drop_zero]
    exact chunk_cel l
  have e2 : appElems cfg hp ⟨.struct [(0, 2), (1, 2)], 2, 16, [.int .i64 0, .int .i64 0], true⟩ 28 (.lit 2 .exact [sp p]) = some [sp p] := by
    unfold appElems
    rw [ty28]
    rfl
  simp only [builtinE, appendE, ty28, ty35, e1, e2, hbc]
  have c1 : (!decide (((l.map sp).length + [sp p].length) * 16 ≤ 35184372088832) || (2 : Nat) == 0 || (16 : Nat) == 0 || !isSlc (.arr 2 b 0 l.length)) = false := by
    simp [isSlc]; omega
  have c2 : decide (0 + ((l.map sp).length + [sp p].length) * 2 ≤ (cel l).length) = false := by
    simp [cel_len]; omega
  have c3 : (!decide (fl ≤ b)) = false := by simpa using hfl
  have c4 : ([sp p].length == 0) = false := rfl
  simp only [c1, c2, c3, c4, cond_false]
  simp [isArr, flat_append, flat_sp, cel_app, flat, sp, cel, AV.cells]

/-- the pieces, out of a time -/
def pcs (f t w : Int) : Nat → List (Int × Int)
  | 0 => []
  | m + 1 => (f, if t - f > w then f + w else t) :: pcs (if t - f > w then f + w else t) t w m

theorem pcs_len (t w : Int) : ∀ (m : Nat) (f : Int), (pcs f t w m).length = m
  | 0, _ => rfl
  | m + 1, f => by simp [pcs, pcs_len t w m]

theorem cond_eq {f t w : Int} (hf : R64 f) (ht : R64 t) (hw : R64 w) (h1 : 1 ≤ w) (h : f ≤ t) : decide (U (U t - U f) > U w) = decide (t - f > w) := by
  obtain ⟨a1, a2⟩ := hf
  obtain ⟨b1, b2⟩ := ht
  obtain ⟨c1, c2⟩ := hw
  have e1 : U w = w := by rw [u_eq]; omega
  have e2 : U (U t - U f) = t - f := by simp only [u_eq]; omega
  rw [e1, e2]

theorem wrap_in {n : Int} (h : R64 n) : IntKind.i64.wrap n = n := by
  obtain ⟨a1, a2⟩ := h
  rw [i_eq]; split <;> omega

theorem all_loop2 (t w n : Int) (asc : Bool) (ht : R64 t) (hw : R64 w) (hw1 : 1 ≤ w) (hn : n ≤ 64) (k fl : Nat) : ∀ (m : Nat) (j : Nat) (f i : Int) (b : Nat) (l : List (Int × Int)) (hp : List Blk), R64 f → f ≤ t → i + m = n → 0 ≤ i →
    hp[b]? = some (.cells (cel l)) → fl ≤ b → l ≠ [] → l.length + m ≤ 64 →
    ∃ b' hp', LA k fl (m + 1 + j) (HA f t w asc (.arr 2 b 0 l.length) n i hp) = some (.exit 0, ⟨slots 52 [(3, .bool asc), (12, .arr 2 b' 0 (l ++ pcs f t w m).length)], hp'⟩) ∧ hp'[b']? = some (.cells (cel (l ++ pcs f t w m))) ∧ fl ≤ b' ∧ HPre fl hp hp'
  | 0, j, f, i, b, l, hp, hf, hft, hi, hi0, hb, hfl, hl0, hl => by
    have hlen := (List.getElem?_eq_some_iff.1 hb).1
    refine ⟨b, hp, ?_, by simpa [pcs] using hb, hfl, .refl (by omega)⟩
    rw [show 0 + 1 + j = j + 1 by omega, all_end _ _ _ _ _ _ _ _ _ _ _ (by simp; omega)]
    simp [pcs]
  | m + 1, j, f, i, b, l, hp, hf, hft, hi, hi0, hb, hfl, hl0, hl => by
    have hlen := (List.getElem?_eq_some_iff.1 hb).1
    have hin : decide (i < n) = true := by simp; omega
    have hwi : IntKind.i64.wrap (i + 1) = i + 1 := wrap_in ⟨by omega, by omega⟩
    have hc := cond_eq hf ht hw hw1 hft
    have pre : HPre fl hp (setAt hp b .dead ++ [.cells (cel (l ++ [(f, if t - f > w then f + w else t)]))]) := .setPush (by omega) hfl _ _
    have at' : (setAt hp b .dead ++ [.cells (cel (l ++ [(f, if t - f > w then f + w else t)]))])[hp.length]? = some (.cells (cel (l ++ [(f, if t - f > w then f + w else t)]))) := by
      rw [setAt_eq]; simp
    have app := app_sp hb hfl (by omega) hl0 (f, if t - f > w then f + w else t)
    have he : R64 (if t - f > w then f + w else t) ∧ (if t - f > w then f + w else t) ≤ t := by
      obtain ⟨a1, a2⟩ := hf
      obtain ⟨b1, b2⟩ := ht
      unfold R64
      split <;> omega
    obtain ⟨b', hp', k1, k2, k3, k4⟩ := all_loop2 t w n asc ht hw hw1 hn k fl m j (if t - f > w then f + w else t) (i + 1) hp.length (l ++ [(f, if t - f > w then f + w else t)]) _ he.1 he.2 (by omega) (by omega) at' (by omega) (by simp) (by simp; omega)
    refine ⟨b', hp', ?_, ?_, k3, pre.trans k4⟩
    · rw [show m + 1 + 1 + j = (m + 1 + j) + 1 by omega]
      have hl1 : (l ++ [(f, if t - f > w then f + w else t)]).length = l.length + 1 := by simp
      have hl2 : (l ++ [(f, if t - f > w then f + w else t)] ++ pcs (if t - f > w then f + w else t) t w m) = l ++ pcs f t w (m + 1) := by simp [pcs]
      rw [hl1, hl2] at k1
      by_cases hgt : t - f > w
      · simp only [if_pos hgt] at k1 app he hl2 ⊢
        have hww : IntKind.i64.wrap (f + w) = f + w := wrap_in he.1
        rw [all_step2 f t w n i asc b hp.length l.length hp _ k fl _ hin (by rw [hc]; simpa using hgt) (by rw [hww]; exact app), hww, hwi]
        exact k1
      · simp only [if_neg hgt] at k1 app he hl2 ⊢
        rw [all_step2' f t w n i asc b hp.length l.length hp _ k fl _ hin (by rw [hc]; simpa using hgt) app, hwi]
        exact k1
    · have hl2 : (l ++ [(f, if t - f > w then f + w else t)] ++ pcs (if t - f > w then f + w else t) t w m) = l ++ pcs f t w (m + 1) := by simp [pcs]
      rw [← hl2]; exact k2
end Go.Proofs.Ytfhemdhgpcpfaaa.E.S1
