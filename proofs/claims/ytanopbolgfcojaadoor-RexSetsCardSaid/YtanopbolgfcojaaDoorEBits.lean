/- How many bits are set: the way by masks and shifts, and the count bit by bit. Plain numbers. -/
set_option linter.unusedSimpArgs false
set_option linter.unusedVariables false
namespace Go.Proofs.YtanopbolgfcojaaDoor.E.PC

/-- a mask of k like bytes -/
def M (c : Nat) : Nat → Nat
  | 0 => 0
  | k + 1 => 256 * M c k + c

theorem M_succ (c k : Nat) : M c (k + 1) = 256 * M c k + c := rfl

theorem and_split {b c : Nat} (y z : Nat) (hb : b < 256) (hc : c < 256) : (256 * y + b) &&& (256 * z + c) = 256 * (y &&& z) + (b &&& c) := by
  apply Nat.eq_of_testBit_eq
  intro i
  have hbc : b &&& c < 2 ^ 8 := Nat.lt_of_le_of_lt Nat.and_le_left hb
  rw [Nat.testBit_and, show 256 * y + b = 2 ^ 8 * y + b from rfl, show 256 * z + c = 2 ^ 8 * z + c from rfl, show 256 * (y &&& z) + (b &&& c) = 2 ^ 8 * (y &&& z) + (b &&& c) from rfl,
    Nat.testBit_two_pow_mul_add _ hb, Nat.testBit_two_pow_mul_add _ hc, Nat.testBit_two_pow_mul_add _ hbc]
  split
  · rw [Nat.testBit_and]
  · rw [Nat.testBit_and]

/-! the three steps within bytes -/
def S1 (x k : Nat) : Nat := ((x / 2) &&& M 0x55 k) + (x &&& M 0x55 k)
def S2 (x k : Nat) : Nat := ((x / 4) &&& M 0x33 k) + (x &&& M 0x33 k)
def S3 (x k : Nat) : Nat := (x / 16 + x) &&& M 0x0f k
def s1 (b : Nat) : Nat := ((b / 2) &&& 0x55) + (b &&& 0x55)
def s2 (b : Nat) : Nat := ((b / 4) &&& 0x33) + (b &&& 0x33)
def s3 (b : Nat) : Nat := (b / 16 + b) &&& 0x0f
/-- how many of a byte's bits are set -/
def p (b : Nat) : Nat := b % 2 + b / 2 % 2 + b / 4 % 2 + b / 8 % 2 + b / 16 % 2 + b / 32 % 2 + b / 64 % 2 + b / 128 % 2

theorem low1 : ∀ y, y < 2 → ∀ b, b < 256 → (128 * y + b / 2) &&& 0x55 = (b / 2) &&& 0x55 := by decide +kernel
theorem low2 : ∀ y, y < 4 → ∀ b, b < 256 → (64 * y + b / 4) &&& 0x33 = (b / 4) &&& 0x33 := by decide +kernel
theorem low3 : ∀ y, y < 5 → ∀ b, b < 256 → 16 * y + (s2 (s1 b) / 16 + s2 (s1 b)) < 256 ∧ (16 * y + (s2 (s1 b) / 16 + s2 (s1 b))) &&& 0x0f = p b := by decide +kernel
theorem b1 : ∀ b, b < 256 → s1 b < 256 ∧ s2 (s1 b) < 256 ∧ s2 (s1 b) % 16 < 5 ∧ p b ≤ 8 := by decide +kernel

theorem step1 (y b k : Nat) (hb : b < 256) : S1 (256 * y + b) (k + 1) = 256 * S1 y k + s1 b := by
  have e : (256 * y + b) / 2 = 256 * (y / 2) + (128 * (y % 2) + b / 2) := by omega
  unfold S1 s1
  rw [M_succ, e, and_split _ _ (by omega) (by decide), and_split _ _ hb (by decide), low1 (y % 2) (by omega) b hb]
  omega
theorem step2 (y b k : Nat) (hb : b < 256) : S2 (256 * y + b) (k + 1) = 256 * S2 y k + s2 b := by
  have e : (256 * y + b) / 4 = 256 * (y / 4) + (64 * (y % 4) + b / 4) := by omega
  unfold S2 s2
  rw [M_succ, e, and_split _ _ (by omega) (by decide), and_split _ _ hb (by decide), low2 (y % 4) (by omega) b hb]
  omega

theorem zero1 (k : Nat) : S1 0 k = 0 := by simp [S1]
theorem zero2 (k : Nat) : S2 0 k = 0 := by simp [S2]

/-- what the bytes' counts come to, side by side -/
def row : Nat → Nat → Nat
  | 0, _ => 0
  | k + 1, x => 256 * row k (x / 256) + p (x % 256)

theorem steps : ∀ (k x : Nat), x < 256 ^ k → S2 (S1 x k) k % 16 < 5 ∧ S3 (S2 (S1 x k) k) k = row k x
  | 0, x, h => by
    have : x = 0 := by simpa using h
    subst this
    simp [S1, S2, S3, M, row]
  | k + 1, x, h => by
    have hx : x = 256 * (x / 256) + x % 256 := by omega
    have hb : x % 256 < 256 := by omega
    have hy : x / 256 < 256 ^ k := by rw [Nat.pow_succ] at h; omega
    obtain ⟨ih1, ih2⟩ := steps k (x / 256) hy
    obtain ⟨g1, g2, g3, g4⟩ := b1 _ hb
    have e : S2 (S1 x (k + 1)) (k + 1) = 256 * S2 (S1 (x / 256) k) k + s2 (s1 (x % 256)) := by
      conv => lhs; rw [hx]
      rw [step1 _ _ _ hb, step2 _ _ _ g1]
    rw [e]
    refine ⟨by omega, ?_⟩
    generalize S2 (S1 (x / 256) k) k = B at *
    obtain ⟨l1, l2⟩ := low3 (B % 16) ih1 _ hb
    generalize hs : s2 (s1 (x % 256)) = c at *
    have e2 : (256 * B + c) / 16 + (256 * B + c) = 256 * (B / 16 + B) + (16 * (B % 16) + (c / 16 + c)) := by omega
    show ((256 * B + c) / 16 + (256 * B + c)) &&& M 0x0f (k + 1) = row (k + 1) x
    rw [M_succ, e2, and_split _ _ l1 (by decide), l2]
    show 256 * S3 B k + _ = _
    rw [ih2]
    rfl

/-- the count, as the masks and shifts tell it -/
def pc (x : Nat) : Nat :=
  let c := S3 (S2 (S1 x 8) 8) 8
  let d := c + c / 256
  let e := d + d / 65536
  let f := e + e / 4294967296
  f % 128

/-- the count, byte by byte -/
def cnt : Nat → Nat → Nat
  | 0, _ => 0
  | k + 1, x => p (x % 256) + cnt k (x / 256)

theorem p_le (b : Nat) : p b ≤ 8 := by unfold p; omega

theorem pc_eq (x : Nat) (h : x < 256 ^ 8) : pc x = cnt 8 x ∧ S3 (S2 (S1 x 8) 8) 8 < 256 ^ 8 := by
  have := (steps 8 x h).2
  unfold pc
  rw [this]
  simp only [row, cnt]
  have q0 := p_le (x % 256)
  have q1 := p_le (x / 256 % 256)
  have q2 := p_le (x / 256 / 256 % 256)
  have q3 := p_le (x / 256 / 256 / 256 % 256)
  have q4 := p_le (x / 256 / 256 / 256 / 256 % 256)
  have q5 := p_le (x / 256 / 256 / 256 / 256 / 256 % 256)
  have q6 := p_le (x / 256 / 256 / 256 / 256 / 256 / 256 % 256)
  have q7 := p_le (x / 256 / 256 / 256 / 256 / 256 / 256 / 256 % 256)
  generalize p (x % 256) = a0 at *
  generalize p (x / 256 % 256) = a1 at *
  generalize p (x / 256 / 256 % 256) = a2 at *
  generalize p (x / 256 / 256 / 256 % 256) = a3 at *
  generalize p (x / 256 / 256 / 256 / 256 % 256) = a4 at *
  generalize p (x / 256 / 256 / 256 / 256 / 256 % 256) = a5 at *
  generalize p (x / 256 / 256 / 256 / 256 / 256 / 256 % 256) = a6 at *
  generalize p (x / 256 / 256 / 256 / 256 / 256 / 256 / 256 % 256) = a7 at *
  clear this h
  refine ⟨?_, by omega⟩
  generalize hc : 256 * (256 * (256 * (256 * (256 * (256 * (256 * (256 * 0 + a7) + a6) + a5) + a4) + a3) + a2) + a1) + a0 = c
  have h1 : c / 256 = a1 + 256 * a2 + 65536 * a3 + 16777216 * a4 + 4294967296 * a5 + 1099511627776 * a6 + 281474976710656 * a7 := by omega
  generalize hd : c + c / 256 = d
  have hd' : d = (a0 + a1) + 256 * (a1 + a2) + 65536 * (a2 + a3 + 256 * (a3 + a4) + 65536 * (a4 + a5) + 16777216 * (a5 + a6) + 4294967296 * (a6 + a7) + 1099511627776 * a7) := by omega
  clear hd hc h1
  have h2 : d / 65536 = a2 + a3 + 256 * (a3 + a4) + 65536 * (a4 + a5) + 16777216 * (a5 + a6) + 4294967296 * (a6 + a7) + 1099511627776 * a7 := by omega
  generalize he : d + d / 65536 = e
  have he' : e = (a0 + a1 + a2 + a3) + 256 * (a1 + a2 + a3 + a4) + 65536 * (a2 + a3 + a4 + a5) + 16777216 * (a3 + a4 + a5 + a6) + 4294967296 * (a4 + a5 + a6 + a7 + 256 * (a5 + a6 + a7) + 65536 * (a6 + a7) + 16777216 * a7) := by omega
  clear he hd' h2
  have h3 : e / 4294967296 = a4 + a5 + a6 + a7 + 256 * (a5 + a6 + a7) + 65536 * (a6 + a7) + 16777216 * a7 := by omega
  rw [h3]
  omega
end Go.Proofs.YtanopbolgfcojaaDoor.E.PC
