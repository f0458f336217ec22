/- Sets of bytes: is one there; how many there are. -/
import Derived.Test.YtanopbolgfcojaaDoorEWith
set_option linter.unusedSimpArgs false
set_option linter.unusedVariables false
namespace Go.Proofs.YtanopbolgfcojaaDoor.E.S4
open Go Go.Proofs E E.R PC
theorem shr_fd {x : BitVec 64} {r : Nat} (h : r < 64) : (x.toNat : Int).fdiv (2 ^ ((r : Int).toNat.min IntKind.u64.bits)) = ((x >>> r).toNat : Int) := by
  rw [shr_nat (n := r) rfl h, BitVec.toNat_ushiftRight, Nat.shiftRight_eq_div_pow]
theorem bit_nat {x : BitVec 64} {m : Nat} : (x >>> m).toNat % 2 = (x.getLsbD m).toNat := by
  rw [BitVec.toNat_ushiftRight, BitVec.getLsbD, Nat.testBit]
  have := Nat.mod_two_eq_zero_or_one (x.toNat >>> m)
  simp [Nat.and_comm, Nat.one_and_eq_mod_two]
  rcases this with h | h <;> simp [h]
theorem bit_ok {x : BitVec 64} {m : Nat} (h : m < 64) : ((IntKind.u64.wrap ((BitVec.ofInt IntKind.u64.bits ((x >>> m).toNat : Int) &&& BitVec.ofInt IntKind.u64.bits 1).toNat : Int) == 1)) = x.getLsbD m := by
  have hx := (x >>> m).isLt
  have e : IntKind.u64.wrap ((BitVec.ofInt IntKind.u64.bits ((x >>> m).toNat : Int) &&& BitVec.ofInt IntKind.u64.bits 1).toNat : Int) = (((x >>> m).toNat &&& 1 : Nat) : Int) := and_nat (c := 1) hx rfl (by omega)
  rw [e, Nat.and_one_is_mod, bit_nat]
  cases x.getLsbD m <;> rfl
theorem bit2_ok {x : BitVec 64} {m : Nat} (h : m < 64) : (Int.tmod ((x >>> m).toNat : Int) 2 == 1) = x.getLsbD m := by
  have : Int.tmod ((x >>> m).toNat : Int) 2 = ((x.getLsbD m).toNat : Int) := by
    rw [Int.tmod_eq_emod_of_nonneg (by omega), ← bit_nat]; omega
  rw [this]
  cases x.getLsbD m <;> rfl
theorem quo64 {c j : Nat} (h : c / 64 = j) (hc : c < 256) : IntKind.wrap .u8 (Int.tdiv (c : Int) 64) = (j : Int) := by
  have : Int.tdiv (c : Int) 64 = (j : Int) := by rw [Int.tdiv_eq_ediv_of_nonneg (by omega)]; omega
  rw [this]; exact wrap_u8 (by omega) (by omega)
theorem rem64 {c r : Nat} (h : c % 64 = r) : Int.tmod (c : Int) 64 = (r : Int) := by
  rw [Int.tmod_eq_emod_of_nonneg (by omega)]; omega

theorem has13a {m : Int} {fl : Nat} {hp : List Blk} {s : W4} {c r : Nat} (hq : IntKind.wrap .u8 (Int.tdiv (c : Int) 64) = 0) (hr : Int.tmod (c : Int) 64 = (r : Int)) (hl : r < 64) : evI (cfg m) fl 13 [.agg s.av, .int .u8 (c : Int)] hp = some (.bool (s.a.getLsbD r), hp) := by
  rcases E.bcases (s.a.getLsbD r) with h1 | h1
  · exact E.evX (AV.bool true) (hp) [.w 1 1 IntKind.u8 (0) hq, .w 1 5 IntKind.u8 ((↑r : Int)) hr, .w 1 6 IntKind.u64 ((↑(s.a >>> r).toNat : Int)) (E.S4.shr_fd (x := s.a) hl), .b 1 8 (((E.S4.bit_ok (x := s.a) hl)).trans h1)] (by kernel_rfl) (E.tlP (by kernel_rfl) rfl (E.shutT (v := AV.bool true) (v' := AV.bool true) (by kernel_rfl))) (by rw [h1])
  · exact E.evX (AV.bool false) (hp) [.w 1 1 IntKind.u8 (0) hq, .w 1 5 IntKind.u8 ((↑r : Int)) hr, .w 1 6 IntKind.u64 ((↑(s.a >>> r).toNat : Int)) (E.S4.shr_fd (x := s.a) hl), .b 1 8 (((E.S4.bit_ok (x := s.a) hl)).trans h1)] (by kernel_rfl) (E.tlP (by kernel_rfl) rfl (E.shutT (v := AV.bool false) (v' := AV.bool false) (by kernel_rfl))) (by rw [h1])

theorem has13b {m : Int} {fl : Nat} {hp : List Blk} {s : W4} {c r : Nat} (hq : IntKind.wrap .u8 (Int.tdiv (c : Int) 64) = 1) (hr : Int.tmod (c : Int) 64 = (r : Int)) (hl : r < 64) : evI (cfg m) fl 13 [.agg s.av, .int .u8 (c : Int)] hp = some (.bool (s.b.getLsbD r), hp) := by
  rcases E.bcases (s.b.getLsbD r) with h1 | h1
  · exact E.evX (AV.bool true) (hp) [.w 1 1 IntKind.u8 (1) hq, .w 1 5 IntKind.u8 ((↑r : Int)) hr, .w 1 6 IntKind.u64 ((↑(s.b >>> r).toNat : Int)) (E.S4.shr_fd (x := s.b) hl), .b 1 8 (((E.S4.bit_ok (x := s.b) hl)).trans h1)] (by kernel_rfl) (E.tlP (by kernel_rfl) rfl (E.shutT (v := AV.bool true) (v' := AV.bool true) (by kernel_rfl))) (by rw [h1])
  · exact E.evX (AV.bool false) (hp) [.w 1 1 IntKind.u8 (1) hq, .w 1 5 IntKind.u8 ((↑r : Int)) hr, .w 1 6 IntKind.u64 ((↑(s.b >>> r).toNat : Int)) (E.S4.shr_fd (x := s.b) hl), .b 1 8 (((E.S4.bit_ok (x := s.b) hl)).trans h1)] (by kernel_rfl) (E.tlP (by kernel_rfl) rfl (E.shutT (v := AV.bool false) (v' := AV.bool false) (by kernel_rfl))) (by rw [h1])

theorem has13c {m : Int} {fl : Nat} {hp : List Blk} {s : W4} {c r : Nat} (hq : IntKind.wrap .u8 (Int.tdiv (c : Int) 64) = 2) (hr : Int.tmod (c : Int) 64 = (r : Int)) (hl : r < 64) : evI (cfg m) fl 13 [.agg s.av, .int .u8 (c : Int)] hp = some (.bool (s.c.getLsbD r), hp) := by
  rcases E.bcases (s.c.getLsbD r) with h1 | h1
  · exact E.evX (AV.bool true) (hp) [.w 1 1 IntKind.u8 (2) hq, .w 1 5 IntKind.u8 ((↑r : Int)) hr, .w 1 6 IntKind.u64 ((↑(s.c >>> r).toNat : Int)) (E.S4.shr_fd (x := s.c) hl), .b 1 8 (((E.S4.bit_ok (x := s.c) hl)).trans h1)] (by kernel_rfl) (E.tlP (by kernel_rfl) rfl (E.shutT (v := AV.bool true) (v' := AV.bool true) (by kernel_rfl))) (by rw [h1])
  · exact E.evX (AV.bool false) (hp) [.w 1 1 IntKind.u8 (2) hq, .w 1 5 IntKind.u8 ((↑r : Int)) hr, .w 1 6 IntKind.u64 ((↑(s.c >>> r).toNat : Int)) (E.S4.shr_fd (x := s.c) hl), .b 1 8 (((E.S4.bit_ok (x := s.c) hl)).trans h1)] (by kernel_rfl) (E.tlP (by kernel_rfl) rfl (E.shutT (v := AV.bool false) (v' := AV.bool false) (by kernel_rfl))) (by rw [h1])

theorem has13d {m : Int} {fl : Nat} {hp : List Blk} {s : W4} {c r : Nat} (hq : IntKind.wrap .u8 (Int.tdiv (c : Int) 64) = 3) (hr : Int.tmod (c : Int) 64 = (r : Int)) (hl : r < 64) : evI (cfg m) fl 13 [.agg s.av, .int .u8 (c : Int)] hp = some (.bool (s.d.getLsbD r), hp) := by
  rcases E.bcases (s.d.getLsbD r) with h1 | h1
  · exact E.evX (AV.bool true) (hp) [.w 1 1 IntKind.u8 (3) hq, .w 1 5 IntKind.u8 ((↑r : Int)) hr, .w 1 6 IntKind.u64 ((↑(s.d >>> r).toNat : Int)) (E.S4.shr_fd (x := s.d) hl), .b 1 8 (((E.S4.bit_ok (x := s.d) hl)).trans h1)] (by kernel_rfl) (E.tlP (by kernel_rfl) rfl (E.shutT (v := AV.bool true) (v' := AV.bool true) (by kernel_rfl))) (by rw [h1])
  · exact E.evX (AV.bool false) (hp) [.w 1 1 IntKind.u8 (3) hq, .w 1 5 IntKind.u8 ((↑r : Int)) hr, .w 1 6 IntKind.u64 ((↑(s.d >>> r).toNat : Int)) (E.S4.shr_fd (x := s.d) hl), .b 1 8 (((E.S4.bit_ok (x := s.d) hl)).trans h1)] (by kernel_rfl) (E.tlP (by kernel_rfl) rfl (E.shutT (v := AV.bool false) (v' := AV.bool false) (by kernel_rfl))) (by rw [h1])

theorem has13n {m : Int} {fl : Nat} {hp : List Blk} {s : W4} {x : Nat} (hx : x < 256) : evI (cfg m) fl 13 [.agg [wAV s.a, wAV s.b, wAV s.c, wAV s.d], .int .u8 (x : Int)] hp = some (.bool (s.has x), hp) := by
  have hl : x % 64 < 64 := Nat.mod_lt _ (by omega)
  unfold W4.has W4.word
  rcases (by omega : x / 64 = 0 ∨ x / 64 = 1 ∨ x / 64 = 2 ∨ x / 64 = 3) with h | h | h | h <;> rw [h]
  · exact has13a (s := s) (quo64 h (by omega)) (rem64 rfl) hl
  · exact has13b (s := s) (quo64 h (by omega)) (rem64 rfl) hl
  · exact has13c (s := s) (quo64 h (by omega)) (rem64 rfl) hl
  · exact has13d (s := s) (quo64 h (by omega)) (rem64 rfl) hl
theorem has13 {m : Int} {fl : Nat} {hp : List Blk} {s : W4} {x : UInt8} : evI (cfg m) fl 13 [.agg [wAV s.a, wAV s.b, wAV s.c, wAV s.d], .int .u8 (x.toNat : Int)] hp = some (.bool (s.has x.toNat), hp) := has13n x.toNat_lt

theorem has14a {m : Int} {fl : Nat} {hp : List Blk} {s : W4} {c r : Nat} (hq : IntKind.wrap .u8 (Int.tdiv (c : Int) 64) = 0) (hr : Int.tmod (c : Int) 64 = (r : Int)) (hl : r < 64) : evI (cfg m) fl 14 [.agg s.av, .int .u8 (c : Int)] hp = some (.bool (s.a.getLsbD r), hp) := by
  rcases E.bcases (s.a.getLsbD r) with h1 | h1
  · exact E.evX (AV.bool true) (hp) [.w 1 1 IntKind.u8 (0) hq, .w 1 5 IntKind.u8 ((↑r : Int)) hr, .w 1 6 IntKind.u64 ((↑(s.a >>> r).toNat : Int)) (E.S4.shr_fd (x := s.a) hl), .b 1 8 (((E.S4.bit2_ok (x := s.a) hl)).trans h1)] (by kernel_rfl) (E.tlP (by kernel_rfl) rfl (E.shutT (v := AV.bool true) (v' := AV.bool true) (by kernel_rfl))) (by rw [h1])
  · exact E.evX (AV.bool false) (hp) [.w 1 1 IntKind.u8 (0) hq, .w 1 5 IntKind.u8 ((↑r : Int)) hr, .w 1 6 IntKind.u64 ((↑(s.a >>> r).toNat : Int)) (E.S4.shr_fd (x := s.a) hl), .b 1 8 (((E.S4.bit2_ok (x := s.a) hl)).trans h1)] (by kernel_rfl) (E.tlP (by kernel_rfl) rfl (E.shutT (v := AV.bool false) (v' := AV.bool false) (by kernel_rfl))) (by rw [h1])

theorem has14b {m : Int} {fl : Nat} {hp : List Blk} {s : W4} {c r : Nat} (hq : IntKind.wrap .u8 (Int.tdiv (c : Int) 64) = 1) (hr : Int.tmod (c : Int) 64 = (r : Int)) (hl : r < 64) : evI (cfg m) fl 14 [.agg s.av, .int .u8 (c : Int)] hp = some (.bool (s.b.getLsbD r), hp) := by
  rcases E.bcases (s.b.getLsbD r) with h1 | h1
  · exact E.evX (AV.bool true) (hp) [.w 1 1 IntKind.u8 (1) hq, .w 1 5 IntKind.u8 ((↑r : Int)) hr, .w 1 6 IntKind.u64 ((↑(s.b >>> r).toNat : Int)) (E.S4.shr_fd (x := s.b) hl), .b 1 8 (((E.S4.bit2_ok (x := s.b) hl)).trans h1)] (by kernel_rfl) (E.tlP (by kernel_rfl) rfl (E.shutT (v := AV.bool true) (v' := AV.bool true) (by kernel_rfl))) (by rw [h1])
  · exact E.evX (AV.bool false) (hp) [.w 1 1 IntKind.u8 (1) hq, .w 1 5 IntKind.u8 ((↑r : Int)) hr, .w 1 6 IntKind.u64 ((↑(s.b >>> r).toNat : Int)) (E.S4.shr_fd (x := s.b) hl), .b 1 8 (((E.S4.bit2_ok (x := s.b) hl)).trans h1)] (by kernel_rfl) (E.tlP (by kernel_rfl) rfl (E.shutT (v := AV.bool false) (v' := AV.bool false) (by kernel_rfl))) (by rw [h1])

theorem has14c {m : Int} {fl : Nat} {hp : List Blk} {s : W4} {c r : Nat} (hq : IntKind.wrap .u8 (Int.tdiv (c : Int) 64) = 2) (hr : Int.tmod (c : Int) 64 = (r : Int)) (hl : r < 64) : evI (cfg m) fl 14 [.agg s.av, .int .u8 (c : Int)] hp = some (.bool (s.c.getLsbD r), hp) := by
  rcases E.bcases (s.c.getLsbD r) with h1 | h1
  · exact E.evX (AV.bool true) (hp) [.w 1 1 IntKind.u8 (2) hq, .w 1 5 IntKind.u8 ((↑r : Int)) hr, .w 1 6 IntKind.u64 ((↑(s.c >>> r).toNat : Int)) (E.S4.shr_fd (x := s.c) hl), .b 1 8 (((E.S4.bit2_ok (x := s.c) hl)).trans h1)] (by kernel_rfl) (E.tlP (by kernel_rfl) rfl (E.shutT (v := AV.bool true) (v' := AV.bool true) (by kernel_rfl))) (by rw [h1])
  · exact E.evX (AV.bool false) (hp) [.w 1 1 IntKind.u8 (2) hq, .w 1 5 IntKind.u8 ((↑r : Int)) hr, .w 1 6 IntKind.u64 ((↑(s.c >>> r).toNat : Int)) (E.S4.shr_fd (x := s.c) hl), .b 1 8 (((E.S4.bit2_ok (x := s.c) hl)).trans h1)] (by kernel_rfl) (E.tlP (by kernel_rfl) rfl (E.shutT (v := AV.bool false) (v' := AV.bool false) (by kernel_rfl))) (by rw [h1])

theorem has14d {m : Int} {fl : Nat} {hp : List Blk} {s : W4} {c r : Nat} (hq : IntKind.wrap .u8 (Int.tdiv (c : Int) 64) = 3) (hr : Int.tmod (c : Int) 64 = (r : Int)) (hl : r < 64) : evI (cfg m) fl 14 [.agg s.av, .int .u8 (c : Int)] hp = some (.bool (s.d.getLsbD r), hp) := by
  rcases E.bcases (s.d.getLsbD r) with h1 | h1
  · exact E.evX (AV.bool true) (hp) [.w 1 1 IntKind.u8 (3) hq, .w 1 5 IntKind.u8 ((↑r : Int)) hr, .w 1 6 IntKind.u64 ((↑(s.d >>> r).toNat : Int)) (E.S4.shr_fd (x := s.d) hl), .b 1 8 (((E.S4.bit2_ok (x := s.d) hl)).trans h1)] (by kernel_rfl) (E.tlP (by kernel_rfl) rfl (E.shutT (v := AV.bool true) (v' := AV.bool true) (by kernel_rfl))) (by rw [h1])
  · exact E.evX (AV.bool false) (hp) [.w 1 1 IntKind.u8 (3) hq, .w 1 5 IntKind.u8 ((↑r : Int)) hr, .w 1 6 IntKind.u64 ((↑(s.d >>> r).toNat : Int)) (E.S4.shr_fd (x := s.d) hl), .b 1 8 (((E.S4.bit2_ok (x := s.d) hl)).trans h1)] (by kernel_rfl) (E.tlP (by kernel_rfl) rfl (E.shutT (v := AV.bool false) (v' := AV.bool false) (by kernel_rfl))) (by rw [h1])

theorem has14n {m : Int} {fl : Nat} {hp : List Blk} {s : W4} {x : Nat} (hx : x < 256) : evI (cfg m) fl 14 [.agg [wAV s.a, wAV s.b, wAV s.c, wAV s.d], .int .u8 (x : Int)] hp = some (.bool (s.has x), hp) := by
  have hl : x % 64 < 64 := Nat.mod_lt _ (by omega)
  unfold W4.has W4.word
  rcases (by omega : x / 64 = 0 ∨ x / 64 = 1 ∨ x / 64 = 2 ∨ x / 64 = 3) with h | h | h | h <;> rw [h]
  · exact has14a (s := s) (quo64 h (by omega)) (rem64 rfl) hl
  · exact has14b (s := s) (quo64 h (by omega)) (rem64 rfl) hl
  · exact has14c (s := s) (quo64 h (by omega)) (rem64 rfl) hl
  · exact has14d (s := s) (quo64 h (by omega)) (rem64 rfl) hl
theorem has14 {m : Int} {fl : Nat} {hp : List Blk} {s : W4} {x : UInt8} : evI (cfg m) fl 14 [.agg [wAV s.a, wAV s.b, wAV s.c, wAV s.d], .int .u8 (x.toNat : Int)] hp = some (.bool (s.has x.toNat), hp) := has14n x.toNat_lt

theorem ones_ok {m : Int} {fl : Nat} {hp : List Blk} {x : BitVec 64} : evI (cfg m) fl 23 [wAV x] hp = some (.int .i64 ((pc x.toNat : Nat) : Int), hp) :=
  ones_w x.isLt rfl (by have := s1_le x.toNat; omega) rfl (s2_le _) rfl (s3_le _) rfl rfl rfl
theorem pc_lt (x : Nat) : pc x < 128 := Nat.mod_lt _ (by omega)
theorem many_w {m : Int} {fl : Nat} {hp : List Blk} {s : W4} (ha : pc s.a.toNat < 128) (hb : pc s.b.toNat < 128) (hc : pc s.c.toNat < 128) (hd : pc s.d.toNat < 128) : evI (cfg m) fl 15 [.agg [wAV s.a, wAV s.b, wAV s.c, wAV s.d]] hp = some (.int .i64 ((0 : Int) + (pc s.a.toNat : Int) + (pc s.b.toNat : Int) + (pc s.c.toNat : Int) + (pc s.d.toNat : Int)), hp) := by
  exact E.evX (AI (0 + (↑(pc s.a.toNat) : Int) + (↑(pc s.b.toNat) : Int) + (↑(pc s.c.toNat) : Int) + (↑(pc s.d.toNat) : Int))) (hp) [.l 2 (show E.LoopI (cfg m) (hp.length) 15 (bodyAt (cfg m) 15 2) 2 (St.mk [J, J, TV.v (AI 0), J, J, TV.v (AV.agg [AW (↑s.a.toNat : Int), AW (↑s.b.toNat : Int), AW (↑s.c.toNat : Int), AW (↑s.d.toNat : Int)]), TV.v (AI 0), J, J, J, J, J, J, J, J] hp) (.exit 0) (St.mk [J, J, TV.v (AI (0 + (↑(pc s.a.toNat) : Int) + (↑(pc s.b.toNat) : Int) + (↑(pc s.c.toNat) : Int) + (↑(pc s.d.toNat) : Int))), J, J, J, J, J, J, J, J, J, J, J, J] hp) from (E.loopStepC (St.mk [J, J, TV.v (AI (0 + (↑(pc s.a.toNat) : Int))), J, J, TV.v (AV.agg [AW (↑s.a.toNat : Int), AW (↑s.b.toNat : Int), AW (↑s.c.toNat : Int), AW (↑s.d.toNat : Int)]), TV.v (AI 1), J, J, J, J, J, J, J, J] hp) [.c 4 2 (E.S4.ones_ok (m := m) (fl := hp.length) (hp := hp) (x := s.a)), .w 4 3 IntKind.i64 (0 + (↑(pc s.a.toNat) : Int)) (E.wrap_i64' (by omega))] (by kernel_rfl) (E.loopStepC (St.mk [J, J, TV.v (AI (0 + (↑(pc s.a.toNat) : Int) + (↑(pc s.b.toNat) : Int))), J, J, TV.v (AV.agg [AW (↑s.a.toNat : Int), AW (↑s.b.toNat : Int), AW (↑s.c.toNat : Int), AW (↑s.d.toNat : Int)]), TV.v (AI 2), J, J, J, J, J, J, J, J] hp) [.c 4 2 (E.S4.ones_ok (m := m) (fl := hp.length) (hp := hp) (x := s.b)), .w 4 3 IntKind.i64 (0 + (↑(pc s.a.toNat) : Int) + (↑(pc s.b.toNat) : Int)) (E.wrap_i64' (by omega))] (by kernel_rfl) (E.loopStepC (St.mk [J, J, TV.v (AI (0 + (↑(pc s.a.toNat) : Int) + (↑(pc s.b.toNat) : Int) + (↑(pc s.c.toNat) : Int))), J, J, TV.v (AV.agg [AW (↑s.a.toNat : Int), AW (↑s.b.toNat : Int), AW (↑s.c.toNat : Int), AW (↑s.d.toNat : Int)]), TV.v (AI 3), J, J, J, J, J, J, J, J] hp) [.c 4 2 (E.S4.ones_ok (m := m) (fl := hp.length) (hp := hp) (x := s.c)), .w 4 3 IntKind.i64 (0 + (↑(pc s.a.toNat) : Int) + (↑(pc s.b.toNat) : Int) + (↑(pc s.c.toNat) : Int)) (E.wrap_i64' (by omega))] (by kernel_rfl) (E.loopStepC (St.mk [J, J, TV.v (AI (0 + (↑(pc s.a.toNat) : Int) + (↑(pc s.b.toNat) : Int) + (↑(pc s.c.toNat) : Int) + (↑(pc s.d.toNat) : Int))), J, J, TV.v (AV.agg [AW (↑s.a.toNat : Int), AW (↑s.b.toNat : Int), AW (↑s.c.toNat : Int), AW (↑s.d.toNat : Int)]), TV.v (AI 4), J, J, J, J, J, J, J, J] hp) [.c 4 2 (E.S4.ones_ok (m := m) (fl := hp.length) (hp := hp) (x := s.d)), .w 4 3 IntKind.i64 (0 + (↑(pc s.a.toNat) : Int) + (↑(pc s.b.toNat) : Int) + (↑(pc s.c.toNat) : Int) + (↑(pc s.d.toNat) : Int)) (E.wrap_i64' (by omega))] (by kernel_rfl) (E.loopEndC (.exit 0) (St.mk [J, J, TV.v (AI (0 + (↑(pc s.a.toNat) : Int) + (↑(pc s.b.toNat) : Int) + (↑(pc s.c.toNat) : Int) + (↑(pc s.d.toNat) : Int))), J, J, J, J, J, J, J, J, J, J, J, J] hp) [] (by kernel_rfl) (fun h => by cases h) rfl) rfl) rfl) rfl) rfl))] (by kernel_rfl) (E.tlP (by kernel_rfl) rfl (E.shutT (v := AI (0 + (↑(pc s.a.toNat) : Int) + (↑(pc s.b.toNat) : Int) + (↑(pc s.c.toNat) : Int) + (↑(pc s.d.toNat) : Int))) (v' := AI (0 + (↑(pc s.a.toNat) : Int) + (↑(pc s.b.toNat) : Int) + (↑(pc s.c.toNat) : Int) + (↑(pc s.d.toNat) : Int))) (by kernel_rfl))) rfl

/-- how many of the first bytes are there -/
def W4.cntTo (s : W4) : Nat → Nat
  | 0 => 0
  | i + 1 => W4.cntTo s i + (if s.has i = true then 1 else 0)
theorem cntTo_le (s : W4) : ∀ i, W4.cntTo s i ≤ i
  | 0 => Nat.le_refl _
  | i + 1 => by have := cntTo_le s i; unfold W4.cntTo; split <;> omega
abbrev rmSt (s : W4) (n i : Nat) : List TV := [J, .bx s.av, J, .v (AI n), .v (AI i)] ++ List.replicate 11 J
abbrev rmEnd (n : Nat) : List TV := [J, J, J, .v (AI n)] ++ List.replicate 12 J
theorem rm_t {m : Int} {fl n i : Nat} {hp : List Blk} {s : W4} (hi : i < 256) (hn : n ≤ i) (h : s.has i = true) : LoopS (cfg m) fl 16 (bodyAt (cfg m) 16 3) 3 ⟨rmSt s n i, hp⟩ ⟨rmSt s (n + 1) (i + 1), hp⟩ := by
  exact E.loopStepS (St.mk [J, TV.bx [AW (↑s.a.toNat : Int), AW (↑s.b.toNat : Int), AW (↑s.c.toNat : Int), AW (↑s.d.toNat : Int)], J, TV.v (AI ((↑n : Int) + 1)), TV.v (AI ((↑i : Int) + 1)), J, J, J, J, J, J, J, J, J, J, J] hp) [.b 3 1 (decide_eq_true ((show (↑i : Int) < 256 from (by omega)))), .wc 5 2 IntKind.u8 ((↑i : Int)) (hp) (E.wrap_u8' (by omega)), .cb 5 3 (E.S4.has14n (m := m) (fl := fl) (hp := hp) (s := s) hi) h, .w 6 1 IntKind.i64 ((↑n : Int) + 1) (E.wrap_i64' (by omega)), .w 4 1 IntKind.i64 ((↑i : Int) + 1) (E.wrap_i64' (by omega))] (by kernel_rfl) rfl

theorem rm_f {m : Int} {fl n i : Nat} {hp : List Blk} {s : W4} (hi : i < 256) (hn : n ≤ i) (h : s.has i = false) : LoopS (cfg m) fl 16 (bodyAt (cfg m) 16 3) 3 ⟨rmSt s n i, hp⟩ ⟨rmSt s n (i + 1), hp⟩ := by
  exact E.loopStepS (St.mk [J, TV.bx [AW (↑s.a.toNat : Int), AW (↑s.b.toNat : Int), AW (↑s.c.toNat : Int), AW (↑s.d.toNat : Int)], J, TV.v (AI (↑n : Int)), TV.v (AI ((↑i : Int) + 1)), J, J, J, J, J, J, J, J, J, J, J] hp) [.b 3 1 (decide_eq_true ((show (↑i : Int) < 256 from (by omega)))), .wc 5 2 IntKind.u8 ((↑i : Int)) (hp) (E.wrap_u8' (by omega)), .cb 5 3 (E.S4.has14n (m := m) (fl := fl) (hp := hp) (s := s) hi) h, .w 4 1 IntKind.i64 ((↑i : Int) + 1) (E.wrap_i64' (by omega))] (by kernel_rfl) rfl

theorem rm_x {m : Int} {fl n : Nat} {hp : List Blk} {s : W4} : LoopI (cfg m) fl 16 (bodyAt (cfg m) 16 3) 3 ⟨rmSt s n 256, hp⟩ (.exit 0) ⟨rmEnd n, hp⟩ := by
  exact E.loopEndC (.exit 0) (St.mk [J, J, J, TV.v (AI (↑n : Int)), J, J, J, J, J, J, J, J, J, J, J, J] hp) [] (by kernel_rfl) (fun h => by cases h) rfl

theorem rm_loop {m : Int} {fl : Nat} {hp : List Blk} {s : W4} : ∀ (c i : Nat), i + c = 256 → LoopI (cfg m) fl 16 (bodyAt (cfg m) 16 3) 3 ⟨rmSt s (W4.cntTo s i) i, hp⟩ (.exit 0) ⟨rmEnd (W4.cntTo s 256), hp⟩
  | 0, i, h => by
    have : i = 256 := by omega
    subst this; exact rm_x
  | c + 1, i, h => by
    have ih := rm_loop (m := m) (fl := fl) (hp := hp) (s := s) c (i + 1) (by omega)
    have hl := cntTo_le s i
    rcases bcases (s.has i) with e | e
    · have e2 : W4.cntTo s (i + 1) = W4.cntTo s i + 1 := by unfold W4.cntTo; rw [if_pos e]; cases i <;> rfl
      rw [e2] at ih
      exact rm_t (by omega) hl e _ _ ih
    · have e2 : W4.cntTo s (i + 1) = W4.cntTo s i := by
        show W4.cntTo s i + (if s.has i = true then 1 else 0) = _
        rw [e]; simp
      rw [e2] at ih
      exact rm_f (by omega) hl e _ _ ih
theorem rm_lp {m : Int} {fl : Nat} {hp : List Blk} {s : W4} : LoopI (cfg m) fl 16 (bodyAt (cfg m) 16 3) 3 ⟨rmSt s 0 0, hp⟩ (.exit 0) ⟨rmEnd (W4.cntTo s 256), hp⟩ := rm_loop 256 0 rfl
theorem rmany_ok {m : Int} {fl : Nat} {hp : List Blk} {s : W4} : evI (cfg m) fl 16 [.agg [wAV s.a, wAV s.b, wAV s.c, wAV s.d]] hp = some (.int .i64 ((W4.cntTo s 256 : Nat) : Int), hp) := by
  exact E.evX (AI (↑(W4.cntTo s 256) : Int)) (hp) [.l 3 (E.S4.rm_lp (m := m) (fl := hp.length) (hp := hp) (s := s))] (by kernel_rfl) (E.tlP (by kernel_rfl) rfl (E.shutT (v := AI (↑(W4.cntTo s 256) : Int)) (v' := AI (↑(W4.cntTo s 256) : Int)) (by kernel_rfl))) rfl

/-! the two ways to count are one -/
def bc (x : Nat) : Nat → Nat
  | 0 => 0
  | n + 1 => bc x n + (x.testBit n).toNat
theorem p_bits : ∀ b, b < 256 → p b = (b.testBit 0).toNat + (b.testBit 1).toNat + (b.testBit 2).toNat + (b.testBit 3).toNat + (b.testBit 4).toNat + (b.testBit 5).toNat + (b.testBit 6).toNat + (b.testBit 7).toNat := by decide +kernel
theorem bc_shift (x : Nat) : ∀ n, bc x (n + 8) = p (x % 256) + bc (x / 256) n
  | 0 => by
    have h : ∀ i, i < 8 → x.testBit i = (x % 256).testBit i := fun i hi => by
      rw [show (256 : Nat) = 2 ^ 8 from rfl, Nat.testBit_mod_two_pow]; simp [hi]
    rw [p_bits _ (Nat.mod_lt _ (by omega))]
    simp only [bc, Nat.zero_add]
    rw [h 0 (by omega), h 1 (by omega), h 2 (by omega), h 3 (by omega), h 4 (by omega), h 5 (by omega), h 6 (by omega), h 7 (by omega)]
    rfl
  | n + 1 => by
    have ih := bc_shift x n
    show bc x (n + 8) + (x.testBit (n + 8)).toNat = p (x % 256) + (bc (x / 256) n + ((x / 256).testBit n).toNat)
    rw [ih, show (256 : Nat) = 2 ^ 8 from rfl, Nat.testBit_div_two_pow, Nat.add_assoc]
theorem cnt_bc : ∀ (k x : Nat), cnt k x = bc x (8 * k)
  | 0, _ => rfl
  | k + 1, x => by rw [show 8 * (k + 1) = 8 * k + 8 by omega, bc_shift, ← cnt_bc k]; rfl
theorem pc_bc (x : BitVec 64) : pc x.toNat = bc x.toNat 64 := by rw [(pc_eq x.toNat x.isLt).1, cnt_bc]
theorem cntTo_word (s : W4) (j : Nat) (w : BitVec 64) (hw : ∀ i, i < 64 → s.has (64 * j + i) = w.getLsbD i) : ∀ n, n ≤ 64 → W4.cntTo s (64 * j + n) = W4.cntTo s (64 * j) + bc w.toNat n
  | 0, _ => rfl
  | n + 1, h => by
    have ih := cntTo_word s j w hw n (by omega)
    show W4.cntTo s (64 * j + n) + (if s.has (64 * j + n) = true then 1 else 0) = _ + (bc w.toNat n + (w.toNat.testBit n).toNat)
    rw [ih, hw n (by omega), BitVec.getLsbD]
    cases w.toNat.testBit n <;> simp [Nat.add_assoc]
theorem many_eq (s : W4) : W4.cntTo s 256 = pc s.a.toNat + pc s.b.toNat + pc s.c.toNat + pc s.d.toNat := by
  have hw : ∀ (j : Nat) (w : BitVec 64), (∀ i, i < 64 → s.word (64 * j + i) = w) → ∀ i, i < 64 → s.has (64 * j + i) = w.getLsbD i := fun j w h i hi => by
    unfold W4.has; rw [h i hi, show (64 * j + i) % 64 = i by omega]
  have h0 := cntTo_word s 0 s.a (hw 0 s.a fun i hi => by unfold W4.word; rw [show (64 * 0 + i) / 64 = 0 by omega]; rfl) 64 (Nat.le_refl _)
  have h1 := cntTo_word s 1 s.b (hw 1 s.b fun i hi => by unfold W4.word; rw [show (64 * 1 + i) / 64 = 1 by omega]; rfl) 64 (Nat.le_refl _)
  have h2 := cntTo_word s 2 s.c (hw 2 s.c fun i hi => by unfold W4.word; rw [show (64 * 2 + i) / 64 = 2 by omega]; rfl) 64 (Nat.le_refl _)
  have h3 := cntTo_word s 3 s.d (hw 3 s.d fun i hi => by unfold W4.word; rw [show (64 * 3 + i) / 64 = 3 by omega]; rfl) 64 (Nat.le_refl _)
  simp only [pc_bc]
  simp only [Nat.mul_zero, Nat.mul_one, Nat.zero_add, Nat.reduceMul, Nat.reduceAdd] at h0 h1 h2 h3
  have hz : W4.cntTo s 0 = 0 := rfl
  omega
theorem many_ok {m : Int} {fl : Nat} {hp : List Blk} {s : W4} : evI (cfg m) fl 15 [.agg [wAV s.a, wAV s.b, wAV s.c, wAV s.d]] hp = some (.int .i64 ((W4.cntTo s 256 : Nat) : Int), hp) := by
  rw [many_w (pc_lt _) (pc_lt _) (pc_lt _) (pc_lt _), many_eq]
  simp
end Go.Proofs.YtanopbolgfcojaaDoor.E.S4
