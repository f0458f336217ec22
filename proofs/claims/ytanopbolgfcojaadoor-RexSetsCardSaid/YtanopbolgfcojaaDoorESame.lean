/- Sets of bytes, held against one another. -/
import Derived.Test.YtanopbolgfcojaaDoorESet
import Derived.Test.YtanopbolgfcojaaDoorEh
set_option linter.unusedSimpArgs false
set_option linter.unusedVariables false
namespace Go.Proofs.YtanopbolgfcojaaDoor.E
open Go E.R
variable {C : Cfg}
instance : DecidableEq W4 := fun s t => decidable_of_iff (s.a = t.a ∧ s.b = t.b ∧ s.c = t.c ∧ s.d = t.d) ⟨fun ⟨h1, h2, h3, h4⟩ => by cases s; cases t; simp_all, fun h => by subst h; exact ⟨rfl, rfl, rfl, rfl⟩⟩
theorem w4_eq {a b c d a' b' c' d' : BitVec 64} : (W4.mk a b c d = W4.mk a' b' c' d') ↔ (a = a' ∧ b = b' ∧ c = c' ∧ d = d') := ⟨fun h => by cases h; exact ⟨rfl, rfl, rfl, rfl⟩, fun ⟨h1, h2, h3, h4⟩ => by subst h1; subst h2; subst h3; subst h4; rfl⟩
def arr4 (C : Cfg) (t : TypeId) : Bool := match C.ty t with
  | some ⟨.array n e, _, _, _, q⟩ => Nat.beq n 4 && (q && (match C.ty e with | some ⟨.int _, sz, _, _, _⟩ => Nat.beq sz 1 | _ => false))
  | _ => false
theorem eqW4 {t : TypeId} {cst : Bool} {a b c d a' b' c' d' : BitVec 64} (ht : arr4 C t = true) :
    binE C .eql t cst (.agg [wAV a, wAV b, wAV c, wAV d]) (.agg [wAV a', wAV b', wAV c', wAV d']) = some (.bool (decide (W4.mk a b c d = W4.mk a' b' c' d'))) := by
  unfold arr4 at ht
  split at ht
  · rename_i n e _ _ _ q h1
    simp only [Bool.and_eq_true] at ht
    obtain ⟨h2, h3, h4⟩ := ht
    obtain rfl := Nat.eq_of_beq_eq_true h2
    subst h3
    split at h4
    · rename_i k sz _ _ _ h5
      obtain rfl := Nat.eq_of_beq_eq_true h4
      have key : ∀ (x y : BitVec 64), (((x.toNat : Int) == (y.toNat : Int)) : Bool) = decide (x = y) := fun x y => by
          rw [Bool.eq_iff_iff, beq_iff_eq, decide_eq_true_eq]
          exact ⟨fun h => BitVec.eq_of_toNat_eq (by omega), fun h => by rw [h]⟩
      have e1 : eqAt C 32 t (.agg [wAV a, wAV b, wAV c, wAV d]) (.agg [wAV a', wAV b', wAV c', wAV d']) = some (decide (W4.mk a b c d = W4.mk a' b' c' d')) := by
        unfold eqAt
        simp only [h1, h5, Bool.not_true, cond_false rfl]
        by_cases ha : a = a' <;> by_cases hb : b = b' <;> by_cases hc : c = c' <;> by_cases hd : d = d' <;>
          simp [eqElems, part, TK.agg, getAt, eqAt, h5, key, w4_eq, ha, hb, hc, hd]
      have e2 : binE C .eql t cst (.agg [wAV a, wAV b, wAV c, wAV d]) (.agg [wAV a', wAV b', wAV c', wAV d']) = (eqAt C 32 t (.agg [wAV a, wAV b, wAV c, wAV d]) (.agg [wAV a', wAV b', wAV c', wAV d'])).map .bool := by
        simp [binE, isNilI]
      rw [e2, e1]; rfl
    · cases h4
  · cases ht
end Go.Proofs.YtanopbolgfcojaaDoor.E
