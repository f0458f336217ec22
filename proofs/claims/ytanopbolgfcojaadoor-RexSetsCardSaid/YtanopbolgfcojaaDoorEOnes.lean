/- Sets of bytes: what the program's and the document's functions on them come to. -/
import Derived.Test.YtanopbolgfcojaaDoorESet
import Derived.Test.YtanopbolgfcojaaDoorEh
import Derived.Test.YtanopbolgfcojaaDoorEBits
import Derived.Test.YtanopbolgfcojaaDoorETab
set_option linter.unusedSimpArgs false
set_option linter.unusedVariables false
namespace Go.Proofs.YtanopbolgfcojaaDoor.E.S4
open Go Go.Proofs E E.R PC
theorem shr_nat {x : Nat} {j : Int} {n : Nat} (hj : j = (n : Int)) (hn : n < 64) : (x : Int).fdiv (2 ^ (j.toNat.min IntKind.u64.bits)) = ((x / 2 ^ n : Nat) : Int) := by
  subst hj
  have e : Nat.min (Int.toNat (n : Int)) IntKind.u64.bits = n := by
    show min (Int.toNat (n : Int)) 64 = n
    omega
  rw [e, Int.fdiv_eq_ediv_of_nonneg _ (Int.pow_nonneg (by omega))]
  simp
theorem shr1 {x : Nat} : (x : Int).fdiv (2 ^ (Int.toNat 1).min IntKind.u64.bits) = ((x / 2 : Nat) : Int) := shr_nat (n := 1) rfl (by omega)
theorem shr2 {x : Nat} : (x : Int).fdiv (2 ^ (Int.toNat 2).min IntKind.u64.bits) = ((x / 4 : Nat) : Int) := shr_nat (n := 2) rfl (by omega)
theorem shr4 {x : Nat} : (x : Int).fdiv (2 ^ (Int.toNat 4).min IntKind.u64.bits) = ((x / 16 : Nat) : Int) := shr_nat (n := 4) rfl (by omega)
theorem shr8 {x : Nat} : (x : Int).fdiv (2 ^ (Int.toNat 8).min IntKind.u64.bits) = ((x / 256 : Nat) : Int) := shr_nat (n := 8) rfl (by omega)
theorem shr16 {x : Nat} : (x : Int).fdiv (2 ^ (Int.toNat 16).min IntKind.u64.bits) = ((x / 65536 : Nat) : Int) := shr_nat (n := 16) rfl (by omega)
theorem shr32 {x : Nat} : (x : Int).fdiv (2 ^ (Int.toNat 32).min IntKind.u64.bits) = ((x / 4294967296 : Nat) : Int) := shr_nat (n := 32) rfl (by omega)
theorem and_nat {a c : Nat} {C : Int} (ha : a < 18446744073709551616) (hC : C = (c : Int)) (hc : c < 18446744073709551616) : IntKind.u64.wrap ((BitVec.ofInt IntKind.u64.bits (a : Int) &&& BitVec.ofInt IntKind.u64.bits C).toNat : Int) = ((a &&& c : Nat) : Int) := by
  subst hC
  have e : ∀ n : Nat, n < 18446744073709551616 → (BitVec.ofInt IntKind.u64.bits (n : Int)).toNat = n := fun n hn => by
    show (BitVec.ofInt 64 (n : Int)).toNat = n
    rw [BitVec.ofInt_natCast, BitVec.toNat_ofNat, Nat.mod_eq_of_lt hn]
  rw [BitVec.toNat_and, e a ha, e c hc]
  have : a &&& c ≤ a := Nat.and_le_left
  exact wrap_u64 (by omega) (by omega)
theorem m55 : M 0x55 8 = 6148914691236517205 := rfl
theorem m33 : M 0x33 8 = 3689348814741910323 := rfl
theorem m0f : M 0x0f 8 = 1085102592571150095 := rfl
theorem andA {a : Nat} (ha : a < 18446744073709551616) : IntKind.u64.wrap ((BitVec.ofInt IntKind.u64.bits (a : Int) &&& BitVec.ofInt IntKind.u64.bits 6148914691236517205).toNat : Int) = ((a &&& M 0x55 8 : Nat) : Int) := and_nat ha rfl (by rw [m55]; omega)
theorem andB {a : Nat} (ha : a < 18446744073709551616) : IntKind.u64.wrap ((BitVec.ofInt IntKind.u64.bits (a : Int) &&& BitVec.ofInt IntKind.u64.bits 3689348814741910323).toNat : Int) = ((a &&& M 0x33 8 : Nat) : Int) := and_nat ha rfl (by rw [m33]; omega)
theorem andC {a : Nat} (ha : a < 18446744073709551616) : IntKind.u64.wrap ((BitVec.ofInt IntKind.u64.bits (a : Int) &&& BitVec.ofInt IntKind.u64.bits 1085102592571150095).toNat : Int) = ((a &&& M 0x0f 8 : Nat) : Int) := and_nat ha rfl (by rw [m0f]; omega)
theorem add_nat {a b : Nat} (h : a + b < 18446744073709551616) : IntKind.u64.wrap ((a : Int) + (b : Int)) = ((a + b : Nat) : Int) := by
  rw [wrap_u64 (by omega) (by omega)]; simp
theorem and127 {f : Nat} (h : f < 9223372036854775808) : IntKind.i64.wrap ((BitVec.ofInt IntKind.i64.bits (f : Int) &&& BitVec.ofInt IntKind.i64.bits 127).toNat : Int) = ((f % 128 : Nat) : Int) := by
  have e : ∀ n : Nat, n < 18446744073709551616 → (BitVec.ofInt IntKind.i64.bits (n : Int)).toNat = n := fun n hn => by
    show (BitVec.ofInt 64 (n : Int)).toNat = n
    rw [BitVec.ofInt_natCast, BitVec.toNat_ofNat, Nat.mod_eq_of_lt hn]
  have e1 : (BitVec.ofInt IntKind.i64.bits 127).toNat = 127 := e 127 (by omega)
  rw [BitVec.toNat_and, e f (by omega), e1]
  have : f &&& 127 = f % 128 := Nat.and_two_pow_sub_one_eq_mod f 7
  rw [this]
  exact wrap_i64 (by omega) (by omega)
theorem s1_le (x : Nat) : S1 x 8 ≤ 2 * 6148914691236517205 := by
  unfold S1; rw [m55]
  have h1 : x / 2 &&& 6148914691236517205 ≤ 6148914691236517205 := Nat.and_le_right
  have h2 : x &&& 6148914691236517205 ≤ 6148914691236517205 := Nat.and_le_right
  omega
theorem s2_le (x : Nat) : S2 x 8 ≤ 2 * 3689348814741910323 := by
  unfold S2; rw [m33]
  have h1 : x / 4 &&& 3689348814741910323 ≤ 3689348814741910323 := Nat.and_le_right
  have h2 : x &&& 3689348814741910323 ≤ 3689348814741910323 := Nat.and_le_right
  omega
theorem s3_le (x : Nat) : S3 x 8 ≤ 1085102592571150095 := by
  unfold S3; rw [m0f]; exact Nat.and_le_right
theorem addA {x : Nat} : IntKind.u64.wrap (((x / 2 &&& M 0x55 8 : Nat) : Int) + ((x &&& M 0x55 8 : Nat) : Int)) = ((S1 x 8 : Nat) : Int) := add_nat (by have := s1_le x; unfold S1 at this; omega)
theorem addB {x : Nat} : IntKind.u64.wrap (((x / 4 &&& M 0x33 8 : Nat) : Int) + ((x &&& M 0x33 8 : Nat) : Int)) = ((S2 x 8 : Nat) : Int) := add_nat (by have := s2_le x; unfold S2 at this; omega)

theorem addA' {x y : Nat} (h : y = S1 x 8) : IntKind.u64.wrap (((x / 2 &&& M 0x55 8 : Nat) : Int) + ((x &&& M 0x55 8 : Nat) : Int)) = (y : Int) := h ▸ addA
theorem addB' {x y : Nat} (h : y = S2 x 8) : IntKind.u64.wrap (((x / 4 &&& M 0x33 8 : Nat) : Int) + ((x &&& M 0x33 8 : Nat) : Int)) = (y : Int) := h ▸ addB
theorem addY {a b d : Nat} (h : d = a + b) (hl : a + b < 18446744073709551616) : IntKind.u64.wrap ((a : Int) + (b : Int)) = (d : Int) := h ▸ add_nat hl
theorem addC {z c : Nat} (h : c = (z / 16 + z) &&& M 0x0f 8) (hl : z / 16 + z < 18446744073709551616) : IntKind.u64.wrap ((BitVec.ofInt IntKind.u64.bits ((z / 16 + z : Nat) : Int) &&& BitVec.ofInt IntKind.u64.bits 1085102592571150095).toNat : Int) = (c : Int) := h ▸ andC hl

theorem ones_w {m : Int} {fl x y z c d e f : Nat} {hp : List Blk} (hx : x < 18446744073709551616) (hy : y = S1 x 8) (hyl : y < 18446744073709551616) (hz : z = S2 y 8) (hzl : z ≤ 7378697629483820646) (hc : c = (z / 16 + z) &&& M 0x0f 8) (hcl : c ≤ 1085102592571150095) (hd : d = c + c / 256) (he : e = d + d / 65536) (hf : f = e + e / 4294967296) : evI (cfg m) fl 23 [.int .u64 x] hp = some (.int .i64 ((f % 128 : Nat) : Int), hp) := by
  exact E.evX (AI (↑(f % 128) : Int)) (hp) [.w 1 1 IntKind.u64 ((↑(x / 2) : Int)) (E.S4.shr1 (x := x)), .w 1 2 IntKind.u64 ((↑(x / 2 &&& M 85 8) : Int)) (E.S4.andA (a := x / 2) (by omega)), .w 1 4 IntKind.u64 ((↑(x &&& M 85 8) : Int)) (E.S4.andA hx), .w 1 5 IntKind.u64 ((↑y : Int)) (E.S4.addA' hy), .w 2 1 IntKind.u64 ((↑(y / 4) : Int)) (E.S4.shr2 (x := y)), .w 2 2 IntKind.u64 ((↑(y / 4 &&& M 51 8) : Int)) (E.S4.andB (a := y / 4) (by omega)), .w 2 4 IntKind.u64 ((↑(y &&& M 51 8) : Int)) (E.S4.andB hyl), .w 2 5 IntKind.u64 ((↑z : Int)) (E.S4.addB' hz), .w 3 1 IntKind.u64 ((↑(z / 16) : Int)) (E.S4.shr4 (x := z)), .w 3 3 IntKind.u64 ((↑(z / 16 + z) : Int)) (E.S4.addY (a := z / 16) (b := z) (d := z / 16 + z) rfl (by omega)), .w 3 4 IntKind.u64 ((↑c : Int)) (E.S4.addC hc (by omega)), .w 4 2 IntKind.u64 ((↑(c / 256) : Int)) (E.S4.shr8 (x := c)), .w 4 3 IntKind.u64 ((↑d : Int)) (E.S4.addY hd (by omega)), .w 5 2 IntKind.u64 ((↑(d / 65536) : Int)) (E.S4.shr16 (x := d)), .w 5 3 IntKind.u64 ((↑e : Int)) (E.S4.addY he (by omega)), .w 6 2 IntKind.u64 ((↑(e / 4294967296) : Int)) (E.S4.shr32 (x := e)), .w 6 3 IntKind.u64 ((↑f : Int)) (E.S4.addY hf (by omega)), .wc 7 1 IntKind.i64 ((↑f : Int)) (hp) (E.wrap_i64' (by omega)), .w 7 2 IntKind.i64 ((↑(f % 128) : Int)) (E.S4.and127 (f := f) (by omega))] (by kernel_rfl) (E.tlP (by kernel_rfl) rfl (E.shutT (v := AI (↑(f % 128) : Int)) (v' := AI (↑(f % 128) : Int)) (by kernel_rfl))) rfl
end Go.Proofs.YtanopbolgfcojaaDoor.E.S4
