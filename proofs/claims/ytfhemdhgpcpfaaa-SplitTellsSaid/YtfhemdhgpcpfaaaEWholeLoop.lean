/- archivistlaw17.SplitWhole answers true at every input. -/
import Derived.Test.YtfhemdhgpcpfaaaEAllx
import Derived.Test.YtfhemdhgpcpfaaaERng
set_option linter.unusedSimpArgs false
set_option linter.unusedVariables false
namespace Go.Proofs.Ytfhemdhgpcpfaaa.E.S1
open Go Go.Proofs E

abbrev J (n : Int) : Int := IntKind.i64.wrap n
def HW (w t : Int) (l bk : List AV) (at_ i : Int) : St := ⟨slots 170 [(9, .bool true), (10, .int .i64 w), (12, .int .i64 t), (13, .lit 2 .sealed l), (15, .lit 2 .sealed bk), (19, .int .i64 at_), (20, .int .i64 i)], []⟩
noncomputable abbrev LW (k : Nat) := loopN cfg (evCall cfg k 0) 0 4 k (bodyOf Try.f4 15) 15

theorem whole_end (w t : Int) (l bk : List AV) (a i : Int) (k m : Nat) (h : decide (i < (l.length : Int)) = false) : LW k (m + 1) (HW w t l bk a i) = some (.exit 0, ⟨slots 170 [(9, .bool true), (12, .int .i64 t), (19, .int .i64 a)], []⟩) :=
  loop_exit (π := [(15, 3, .val (.bool false))]) (φs := [some (AV.bool (decide (i < (l.length : Int)))) = some (.bool false)]) (by kernel_rfl) (fun h => by cases h) (by rw [h]; rfl)
theorem whole_step (w t : Int) (l bk : List AV) (a i : Int) (p r : Int × Int) (k m : Nat) (h : decide (i < (l.length : Int)) = true)
    (hi : indexAddr cfg 28 (.v (.lit 2 .sealed l)) i = some (.v (.rop (sp p)))) (hr : indexAddr cfg 28 (.v (.lit 2 .sealed bk)) (J (J ((l.length : Int) - 1) - i)) = some (.v (.rop (sp r))))
    (h1 : (p.1 != a) = false) (h2 : decide (p.2 ≤ a) = false) (h3 : decide (p.2 > J (a + w)) = false) (h4 : decide (i < J ((l.length : Int) - 1)) = true) (h5 : (p.2 != J (a + w)) = false) (h6 : binE cfg .neq 35 false (sp r) (sp p) = some (.bool false)) :
    LW k (m + 1) (HW w t l bk a i) = LW k m (HW w t l bk p.2 (J (i + 1))) :=
  loop_step (π := [(15, 3, .val (.bool true)), (17, 2, .val (.rop (sp p))), (17, 6, .val (.bool false)), (17, 10, .val (.rop (sp p))), (17, 14, .val (.bool false)), (17, 19, .val (.rop (sp p))), (17, 25, .val (.bool false)), (17, 32, .val (.bool true)), (17, 36, .val (.rop (sp p))), (17, 42, .val (.bool false)), (17, 52, .val (.rop (sp r))), (17, 56, .val (.rop (sp p))), (17, 58, .val (.bool false)), (19, 2, .val (.rop (sp p)))])
    (φs := [some (AV.bool (decide (i < (l.length : Int)))) = some (.bool true),
      indexAddr cfg 28 (.v (.lit 2 .sealed l)) i = some (.v (.rop (sp p))),
      some (AV.bool (p.1 != a)) = some (.bool false),
      indexAddr cfg 28 (.v (.lit 2 .sealed l)) i = some (.v (.rop (sp p))),
      some (AV.bool (decide (p.2 ≤ a))) = some (.bool false),
      indexAddr cfg 28 (.v (.lit 2 .sealed l)) i = some (.v (.rop (sp p))),
      some (AV.bool (decide (p.2 > J (a + w)))) = some (.bool false),
      some (AV.bool (decide (i < J ((l.length : Int) - 1)))) = some (.bool true),
      indexAddr cfg 28 (.v (.lit 2 .sealed l)) i = some (.v (.rop (sp p))),
      some (AV.bool (p.2 != J (a + w))) = some (.bool false),
      indexAddr cfg 28 (.v (.lit 2 .sealed bk)) (J (J ((l.length : Int) - 1) - i)) = some (.v (.rop (sp r))),
      indexAddr cfg 28 (.v (.lit 2 .sealed l)) i = some (.v (.rop (sp p))),
      binE cfg .neq 35 false (sp r) (sp p) = some (.bool false),
      indexAddr cfg 28 (.v (.lit 2 .sealed l)) i = some (.v (.rop (sp p)))])
    (by kernel_rfl) (by rw [h, h1, h2, h3, h4, h5]; exact ⟨rfl, hi, rfl, hi, rfl, hi, rfl, rfl, hi, rfl, hr, hi, h6, hi⟩)

theorem whole_last (w t : Int) (l bk : List AV) (a i : Int) (p r : Int × Int) (k m : Nat) (h : decide (i < (l.length : Int)) = true)
    (hi : indexAddr cfg 28 (.v (.lit 2 .sealed l)) i = some (.v (.rop (sp p)))) (hr : indexAddr cfg 28 (.v (.lit 2 .sealed bk)) (J (J ((l.length : Int) - 1) - i)) = some (.v (.rop (sp r))))
    (h1 : (p.1 != a) = false) (h2 : decide (p.2 ≤ a) = false) (h3 : decide (p.2 > J (a + w)) = false) (h4 : decide (i < J ((l.length : Int) - 1)) = false) (h6 : binE cfg .neq 35 false (sp r) (sp p) = some (.bool false)) :
    LW k (m + 1) (HW w t l bk a i) = LW k m (HW w t l bk p.2 (J (i + 1))) :=
  loop_step (π := [(15, 3, .val (.bool true)), (17, 2, .val (.rop (sp p))), (17, 6, .val (.bool false)), (17, 10, .val (.rop (sp p))), (17, 14, .val (.bool false)), (17, 19, .val (.rop (sp p))), (17, 25, .val (.bool false)), (17, 32, .val (.bool false)), (17, 52, .val (.rop (sp r))), (17, 56, .val (.rop (sp p))), (17, 58, .val (.bool false)), (19, 2, .val (.rop (sp p)))])
    (φs := [some (AV.bool (decide (i < (l.length : Int)))) = some (.bool true),
      indexAddr cfg 28 (.v (.lit 2 .sealed l)) i = some (.v (.rop (sp p))),
      some (AV.bool (p.1 != a)) = some (.bool false),
      indexAddr cfg 28 (.v (.lit 2 .sealed l)) i = some (.v (.rop (sp p))),
      some (AV.bool (decide (p.2 ≤ a))) = some (.bool false),
      indexAddr cfg 28 (.v (.lit 2 .sealed l)) i = some (.v (.rop (sp p))),
      some (AV.bool (decide (p.2 > J (a + w)))) = some (.bool false),
      some (AV.bool (decide (i < J ((l.length : Int) - 1)))) = some (.bool false),
      indexAddr cfg 28 (.v (.lit 2 .sealed bk)) (J (J ((l.length : Int) - 1) - i)) = some (.v (.rop (sp r))),
      indexAddr cfg 28 (.v (.lit 2 .sealed l)) i = some (.v (.rop (sp p))),
      binE cfg .neq 35 false (sp r) (sp p) = some (.bool false),
      indexAddr cfg 28 (.v (.lit 2 .sealed l)) i = some (.v (.rop (sp p)))])
    (by kernel_rfl) (by rw [h, h1, h2, h3, h4]; exact ⟨rfl, hi, rfl, hi, rfl, hi, rfl, rfl, hr, hi, h6, hi⟩)


/-- where the pieces begin -/
def pt (f t w : Int) (n : Nat) (i : Nat) : Int := if i < n then f + i * w else t

theorem pcs_get (t w : Int) (hw : 1 ≤ w) : ∀ (m : Nat) (f : Int), (m : Int) * w < t - f → t - f ≤ ((m : Int) + 1) * w → ∀ i, i < m + 1 → (pcs f t w (m + 1))[i]? = some (pt f t w (m + 1) i, pt f t w (m + 1) (i + 1))
  | 0, f, h1, h2, i, hi => by
    have : i = 0 := by omega
    subst this
    have : ¬ t - f > w := by omega
    simp [pcs, pt, this]
  | m + 1, f, h1, h2, i, hi => by
    have hmw : 0 ≤ (m : Int) * w := Int.mul_nonneg (by omega) (by omega)
    have e1 : ((m + 1 : Nat) : Int) * w = m * w + w := by rw [Int.natCast_add, Int.add_mul]; omega
    have e2 : (((m + 1 : Nat) : Int) + 1) * w = m * w + w + w := by rw [Int.add_mul, e1]; omega
    have e3 : ((m : Int) + 1) * w = m * w + w := by rw [Int.add_mul]; omega
    rw [e1] at h1
    rw [e2] at h2
    have hgt : t - f > w := by omega
    rw [pcs, if_pos hgt]
    cases i with
    | zero => simp [pt]
    | succ i =>
      rw [List.getElem?_cons_succ, pcs_get t w hw m (f + w) (by omega) (by rw [e3]; omega) i (by omega)]
      have g : ∀ j, pt (f + w) t w (m + 1) j = pt f t w (m + 1 + 1) (j + 1) := fun j => by
        unfold pt
        by_cases hj : j < m + 1
        · rw [if_pos hj, if_pos (by omega), Int.natCast_add, Int.add_mul]; omega
        · rw [if_neg hj, if_neg (by omega)]
      rw [g, g]

theorem idx_lit {l : List AV} {i : Nat} {x : AV} {own : Own} (h : l[i]? = some x) : indexAddr cfg 28 (.v (.lit 2 own l)) (i : Int) = some (.v (.rop x)) := by
  unfold indexAddr
  have e1 : decide ((i : Int) < 0) = false := by simp
  simp [ty28, ty35, e1, getAt_eq, h]

theorem ty2 : cfg.ty 2 = some ⟨.int .i64, 1, 8, [.int .i64 0], true⟩ := by kernel_rfl
theorem eq_sp (p q : Int × Int) : eqAt cfg 32 35 (sp p) (sp q) = some (p.1 == q.1 && p.2 == q.2) := by
  simp only [eqAt, ty35, sp, cond_true rfl, eqFields, ty2, part, TK.agg, cond_false rfl, getAt, decide_true]
  cases (p.1 == q.1) <;> cases (p.2 == q.2) <;> rfl
theorem neq_sp (p : Int × Int) : binE cfg .neq 35 false (sp p) (sp p) = some (.bool false) := by
  have : binE cfg .neq 35 false (sp p) (sp p) = (eqAt cfg 32 35 (sp p) (sp p)).map fun b => .bool !b := rfl
  rw [this, eq_sp]
  simp

theorem whole_loop (w t : Int) (P : List (Int × Int)) (p : Nat → Int) (hlen : P.length ≤ 64) (hP : ∀ i, i < P.length → P[i]? = some (p i, p (i + 1))) (hlt : ∀ i, i < P.length → p i < p (i + 1)) (hle : ∀ i, i < P.length → p (i + 1) ≤ p i + w)
    (heq : ∀ i, i + 1 < P.length → p (i + 1) = p i + w) (hr : ∀ i, i < P.length → R64 (p i + w)) (k : Nat) : ∀ (r i q : Nat), i + r = P.length →
    LW k (r + 1 + q) (HW w t (P.map sp) (P.reverse.map sp) (p i) i) = some (.exit 0, ⟨slots 170 [(9, .bool true), (12, .int .i64 t), (19, .int .i64 (p P.length))], []⟩)
  | 0, i, q, h => by
    have : i = P.length := by omega
    subst this
    rw [show 0 + 1 + q = q + 1 by omega, whole_end _ _ _ _ _ _ _ _ (by simp)]
  | r + 1, i, q, h => by
    have hi : i < P.length := by omega
    have ih := whole_loop w t P p hlen hP hlt hle heq hr k r (i + 1) q (by omega)
    have e0 : J (i + 1 : Int) = ((i + 1 : Nat) : Int) := by rw [show J (i + 1 : Int) = (i : Int) + 1 from wrap_in ⟨by omega, by omega⟩]; omega
    have ml : ((P.map sp).length : Int) = (P.length : Int) := by simp
    have e1 : J (((P.map sp).length : Int) - 1) = (P.length : Int) - 1 := by rw [ml]; exact wrap_in ⟨by omega, by omega⟩
    have e2 : J (J (((P.map sp).length : Int) - 1) - i) = ((P.length - 1 - i : Nat) : Int) := by
      rw [e1, show J ((P.length : Int) - 1 - i) = (P.length : Int) - 1 - i from wrap_in ⟨by omega, by omega⟩]; omega
    have h1 : indexAddr cfg 28 (.v (.lit 2 .sealed (P.map sp))) (i : Int) = some (.v (.rop (sp (p i, p (i + 1))))) := idx_lit (by rw [List.getElem?_map, hP i hi]; rfl)
    have h2 : indexAddr cfg 28 (.v (.lit 2 .sealed (P.reverse.map sp))) (J (J (((P.map sp).length : Int) - 1) - i)) = some (.v (.rop (sp (p i, p (i + 1))))) := by
      rw [e2]
      refine idx_lit ?_
      rw [List.getElem?_map, List.getElem?_reverse (by omega), show P.length - 1 - (P.length - 1 - i) = i by omega, hP i hi]
      rfl
    have hw : J (p i + w) = p i + w := wrap_in (hr i hi)
    have a1 := hlt i hi
    have a2 := hle i hi
    rw [show r + 1 + 1 + q = (r + 1 + q) + 1 by omega]
    by_cases hl : i + 1 < P.length
    · have a3 := heq i hl
      rw [whole_step w t (P.map sp) (P.reverse.map sp) (p i) i (p i, p (i + 1)) (p i, p (i + 1)) k _ (by rw [ml]; simpa using hi) h1 h2 (by simp) (by simp; omega) (by rw [hw]; simp; omega) (by rw [e1]; simp; omega) (by rw [hw]; simp; omega) (neq_sp _)]
      rw [e0]
      exact ih
    · rw [whole_last w t (P.map sp) (P.reverse.map sp) (p i) i (p i, p (i + 1)) (p i, p (i + 1)) k _ (by rw [ml]; simpa using hi) h1 h2 (by simp) (by simp; omega) (by rw [hw]; simp; omega) (by rw [e1]; simp; omega) (neq_sp _)]
      rw [e0]
      exact ih
end Go.Proofs.Ytfhemdhgpcpfaaa.E.S1
