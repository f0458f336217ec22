/- Sets of bytes, as four words. -/
import Derived.Test.YtkocimfdgdegfaaGreatDoorEh
set_option linter.unusedSimpArgs false
set_option linter.unusedVariables false
namespace Go.Proofs.YtkocimfdgdegfaaGreatDoor.E.R
open Go

structure W4 where
  a : BitVec 64
  b : BitVec 64
  c : BitVec 64
  d : BitVec 64

@[reducible] def wAV (x : BitVec 64) : AV := .int .u64 (x.toNat : Int)
@[reducible] def W4.av (s : W4) : List AV := [wAV s.a, wAV s.b, wAV s.c, wAV s.d]
def W4.zero : W4 := ⟨0, 0, 0, 0⟩
def setBit (w : BitVec 64) (n : Nat) : BitVec 64 := w ||| (1#64 <<< n)
/-- with a byte more -/
def W4.add (s : W4) (k : Nat) : W4 := match k / 64 with
  | 0 => { s with a := setBit s.a (k % 64) }
  | 1 => { s with b := setBit s.b (k % 64) }
  | 2 => { s with c := setBit s.c (k % 64) }
  | _ => { s with d := setBit s.d (k % 64) }
/-- n bytes more, from k on -/
def W4.addN (s : W4) : Nat → Nat → W4
  | 0, _ => s
  | n + 1, k => (s.add k).addN n (k + 1)
def W4.with (s : W4) (lo hi : UInt8) : W4 := s.addN (hi.toNat + 1 - lo.toNat) lo.toNat
def W4.word (s : W4) (k : Nat) : BitVec 64 := match k / 64 with
  | 0 => s.a
  | 1 => s.b
  | 2 => s.c
  | _ => s.d
def W4.has (s : W4) (k : Nat) : Bool := (s.word k).getLsbD (k % 64)

theorem setBit_has (w : BitVec 64) (n m : Nat) (hm : m < 64) : (setBit w n).getLsbD m = (w.getLsbD m || decide (m = n)) := by
  unfold setBit
  rw [BitVec.getLsbD_or, BitVec.getLsbD_shiftLeft]
  by_cases h : m = n
  · subst h; simp [hm]
  · by_cases h2 : m < n
    · simp [hm, h, h2]
    · simp [hm, h, h2, BitVec.getLsbD_one]; omega
theorem W4.add_has (s : W4) (k x : Nat) (hk : k < 256) (hx : x < 256) : (s.add k).has x = (s.has x || decide (x = k)) := by
  have hm : x % 64 < 64 := Nat.mod_lt _ (by omega)
  have h1 : k / 64 = 0 ∨ k / 64 = 1 ∨ k / 64 = 2 ∨ k / 64 = 3 := by omega
  have h2 : x / 64 = 0 ∨ x / 64 = 1 ∨ x / 64 = 2 ∨ x / 64 = 3 := by omega
  unfold W4.has W4.word W4.add
  rcases h1 with h1 | h1 | h1 | h1 <;> rcases h2 with h2 | h2 | h2 | h2 <;> simp only [h1, h2, setBit_has _ _ _ hm] <;>
    first
    | (congr 1; rw [decide_eq_decide]; omega)
    | (rw [decide_eq_false (by omega), Bool.or_false])
theorem W4.addN_has (n : Nat) : ∀ (s : W4) (k x : Nat), k + n ≤ 256 → x < 256 → (s.addN n k).has x = (s.has x || decide (k ≤ x ∧ x < k + n)) := by
  induction n with
  | zero => intro s k x _ _; unfold W4.addN; rw [decide_eq_false (by omega), Bool.or_false]
  | succ n ih =>
    intro s k x hk hx
    unfold W4.addN
    rw [ih _ _ _ (by omega) hx, W4.add_has _ _ _ (by omega) hx, Bool.or_assoc]
    congr 1
    rw [← Bool.decide_or, decide_eq_decide]
    omega
theorem W4.with_has (s : W4) (lo hi : UInt8) (x : Nat) (hx : x < 256) : (s.with lo hi).has x = (s.has x || decide (lo.toNat ≤ x ∧ x ≤ hi.toNat)) := by
  have h1 := lo.toNat_lt; have h2 := hi.toNat_lt
  unfold W4.with
  by_cases h : lo.toNat ≤ hi.toNat
  · rw [W4.addN_has _ _ _ _ (by omega) hx]; congr 1; rw [decide_eq_decide]; omega
  · rw [show hi.toNat + 1 - lo.toNat = 0 by omega]; unfold W4.addN; rw [decide_eq_false (by omega), Bool.or_false]
/-- two sets of the same bytes are the same -/
theorem W4.ext {s t : W4} (h : ∀ x, x < 256 → s.has x = t.has x) : s = t := by
  have key : ∀ (j : Nat) (u v : BitVec 64), j < 4 → (∀ m, m < 64 → u.getLsbD m = v.getLsbD m) → u = v := fun j u v _ hh => BitVec.eq_of_getLsbD_eq hh
  have ha : s.a = t.a := key 0 _ _ (by omega) fun m hm => by
    have := h m (by omega); unfold W4.has W4.word at this; rw [show m / 64 = 0 by omega, show m % 64 = m by omega] at this; exact this
  have hb : s.b = t.b := key 1 _ _ (by omega) fun m hm => by
    have := h (m + 64) (by omega); unfold W4.has W4.word at this; rw [show (m + 64) / 64 = 1 by omega, show (m + 64) % 64 = m by omega] at this; exact this
  have hc : s.c = t.c := key 2 _ _ (by omega) fun m hm => by
    have := h (m + 128) (by omega); unfold W4.has W4.word at this; rw [show (m + 128) / 64 = 2 by omega, show (m + 128) % 64 = m by omega] at this; exact this
  have hd : s.d = t.d := key 3 _ _ (by omega) fun m hm => by
    have := h (m + 192) (by omega); unfold W4.has W4.word at this; rw [show (m + 192) / 64 = 3 by omega, show (m + 192) % 64 = m by omega] at this; exact this
  cases s; cases t; simp_all

/-! what the machine's numbers come to -/
theorem ofInt_w (x : BitVec 64) : BitVec.ofInt IntKind.u64.bits (x.toNat : Int) = x := by
  show BitVec.ofInt 64 _ = x
  rw [BitVec.ofInt_natCast, BitVec.ofNat_toNat, BitVec.setWidth_eq]
theorem or_w (w v : BitVec 64) : IntKind.wrap .u64 ((BitVec.ofInt IntKind.u64.bits (w.toNat : Int) ||| BitVec.ofInt IntKind.u64.bits (v.toNat : Int)).toNat : Int) = ((w ||| v).toNat : Int) := by
  rw [ofInt_w, ofInt_w]
  have h : (w ||| v).toNat < 18446744073709551616 := (w ||| v).isLt
  have h2 : ((w ||| v : BitVec 64).toNat : Int) < 18446744073709551616 := Int.ofNat_lt.2 h
  exact wrap_u64 (Int.natCast_nonneg _) h2
theorem shl_w (n : Nat) (h : n < 64) : IntKind.wrap .u64 ((1 : Int) * 2 ^ n) = ((1#64 <<< n).toNat : Int) := by
  have h1 : 2 ^ n < 2 ^ 64 := Nat.pow_lt_pow_right (by omega) h
  have : (1#64 <<< n).toNat = 2 ^ n := by
    rw [BitVec.toNat_shiftLeft]; simp [Nat.shiftLeft_eq]
    exact h1
  have h2 : ((2 : Int) ^ n) = ((2 ^ n : Nat) : Int) := by simp
  rw [this, Int.one_mul, h2, wrap_u64 (by omega) (by have : (2:Nat) ^ 64 = 18446744073709551616 := rfl; omega)]
end Go.Proofs.YtkocimfdgdegfaaGreatDoor.E.R
