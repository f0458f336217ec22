/- Sets of bytes: with more; whether one is there; how many there are. -/
import Derived.Test.YtanopbolgfcojaaDoorEOnes
set_option linter.unusedSimpArgs false
set_option linter.unusedVariables false
namespace Go.Proofs.YtanopbolgfcojaaDoor.E.S4
open Go Go.Proofs E E.R PC
theorem shl_e {r : Nat} (h : r < 64) : IntKind.u64.wrap (1 * 2 ^ ((r : Int).toNat.min IntKind.u64.bits)) = ((1#64 <<< r).toNat : Int) := by
  have e : Nat.min (Int.toNat (r : Int)) IntKind.u64.bits = r := by
    show min (Int.toNat (r : Int)) 64 = r
    omega
  rw [e, shl_w r h]
theorem or_e {w : BitVec 64} {r : Nat} : IntKind.u64.wrap ((BitVec.ofInt IntKind.u64.bits (w.toNat : Int) ||| BitVec.ofInt IntKind.u64.bits ((1#64 <<< r).toNat : Int)).toNat : Int) = ((setBit w r).toNat : Int) := by
  rw [or_w]; rfl
abbrev wSt (n : Nat) (hi : UInt8) (s : W4) (q : Nat) : List TV := [J, J, .v (.int .u8 hi.toNat), .bx s.av, J, J, .bx [.int .u64 0, .int .u64 0, .int .u64 0, .int .u64 0], .v (.int .i64 q)] ++ List.replicate (n - 8) J
abbrev wEnd (n : Nat) (s : W4) : List TV := [J, J, J, .bx s.av, J, J, .bx [.int .u64 0, .int .u64 0, .int .u64 0, .int .u64 0]] ++ List.replicate (n - 7) J
theorem tdiv_w {q j : Nat} (h : q / 64 = j) (hq : q < 256) : IntKind.wrap .i64 (Int.tdiv (q : Int) 64) = (j : Int) := by
  have : Int.tdiv (q : Int) 64 = (j : Int) := by rw [Int.tdiv_eq_ediv_of_nonneg (by omega)]; omega
  rw [this]; exact wrap_i64 (by omega) (by omega)
theorem tmod_w (q : Nat) : Int.tmod (q : Int) 64 = ((q % 64 : Nat) : Int) := by
  rw [Int.tmod_eq_emod_of_nonneg (by omega)]; omega

theorem wl11a {m : Int} {fl r q : Nat} {hp : List Blk} {s : W4} {hi : UInt8} (hq : IntKind.wrap .i64 (Int.tdiv (q : Int) 64) = 0) (hr : Int.tmod (q : Int) 64 = (r : Int)) (hm : r < 64) (hb : q < 256) (hl : q ≤ hi.toNat) : LoopS (cfg m) fl 11 (bodyAt (cfg m) 11 2) 2 ⟨wSt 26 hi s q, hp⟩ ⟨wSt 26 hi { s with a := setBit s.a r } (q + 1), hp⟩ := by
  exact E.loopStepS (St.mk [J, J, TV.v (AU (↑hi.toNat : Int)), TV.bx [AW (↑(setBit s.a r).toNat : Int), AW (↑s.b.toNat : Int), AW (↑s.c.toNat : Int), AW (↑s.d.toNat : Int)], J, J, TV.bx [AW 0, AW 0, AW 0, AW 0], TV.v (AI ((↑q : Int) + 1)), J, J, J, J, J, J, J, J, J, J, J, J, J, J, J, J, J, J] hp) [.wc 2 2 IntKind.i64 ((↑hi.toNat : Int)) (hp) (E.wrap_i64' (by have := UInt8.toNat_lt (hi); omega)), .b 2 3 (decide_eq_true ((show (↑q : Int) ≤ (↑hi.toNat : Int) from (by omega)))), .w 4 1 IntKind.i64 (0) hq, .w 4 5 IntKind.i64 ((↑r : Int)) hr, .w 4 6 IntKind.u64 ((↑(1#64 <<< r).toNat : Int)) (E.S4.shl_e hm), .w 4 7 IntKind.u64 ((↑(setBit s.a r).toNat : Int)) (E.S4.or_e (w := s.a) (r := r)), .w 3 1 IntKind.i64 ((↑q : Int) + 1) (E.wrap_i64' (by omega))] (by kernel_rfl) rfl

theorem wl11b {m : Int} {fl r q : Nat} {hp : List Blk} {s : W4} {hi : UInt8} (hq : IntKind.wrap .i64 (Int.tdiv (q : Int) 64) = 1) (hr : Int.tmod (q : Int) 64 = (r : Int)) (hm : r < 64) (hb : q < 256) (hl : q ≤ hi.toNat) : LoopS (cfg m) fl 11 (bodyAt (cfg m) 11 2) 2 ⟨wSt 26 hi s q, hp⟩ ⟨wSt 26 hi { s with b := setBit s.b r } (q + 1), hp⟩ := by
  exact E.loopStepS (St.mk [J, J, TV.v (AU (↑hi.toNat : Int)), TV.bx [AW (↑s.a.toNat : Int), AW (↑(setBit s.b r).toNat : Int), AW (↑s.c.toNat : Int), AW (↑s.d.toNat : Int)], J, J, TV.bx [AW 0, AW 0, AW 0, AW 0], TV.v (AI ((↑q : Int) + 1)), J, J, J, J, J, J, J, J, J, J, J, J, J, J, J, J, J, J] hp) [.wc 2 2 IntKind.i64 ((↑hi.toNat : Int)) (hp) (E.wrap_i64' (by have := UInt8.toNat_lt (hi); omega)), .b 2 3 (decide_eq_true ((show (↑q : Int) ≤ (↑hi.toNat : Int) from (by omega)))), .w 4 1 IntKind.i64 (1) hq, .w 4 5 IntKind.i64 ((↑r : Int)) hr, .w 4 6 IntKind.u64 ((↑(1#64 <<< r).toNat : Int)) (E.S4.shl_e hm), .w 4 7 IntKind.u64 ((↑(setBit s.b r).toNat : Int)) (E.S4.or_e (w := s.b) (r := r)), .w 3 1 IntKind.i64 ((↑q : Int) + 1) (E.wrap_i64' (by omega))] (by kernel_rfl) rfl

theorem wl11c {m : Int} {fl r q : Nat} {hp : List Blk} {s : W4} {hi : UInt8} (hq : IntKind.wrap .i64 (Int.tdiv (q : Int) 64) = 2) (hr : Int.tmod (q : Int) 64 = (r : Int)) (hm : r < 64) (hb : q < 256) (hl : q ≤ hi.toNat) : LoopS (cfg m) fl 11 (bodyAt (cfg m) 11 2) 2 ⟨wSt 26 hi s q, hp⟩ ⟨wSt 26 hi { s with c := setBit s.c r } (q + 1), hp⟩ := by
  exact E.loopStepS (St.mk [J, J, TV.v (AU (↑hi.toNat : Int)), TV.bx [AW (↑s.a.toNat : Int), AW (↑s.b.toNat : Int), AW (↑(setBit s.c r).toNat : Int), AW (↑s.d.toNat : Int)], J, J, TV.bx [AW 0, AW 0, AW 0, AW 0], TV.v (AI ((↑q : Int) + 1)), J, J, J, J, J, J, J, J, J, J, J, J, J, J, J, J, J, J] hp) [.wc 2 2 IntKind.i64 ((↑hi.toNat : Int)) (hp) (E.wrap_i64' (by have := UInt8.toNat_lt (hi); omega)), .b 2 3 (decide_eq_true ((show (↑q : Int) ≤ (↑hi.toNat : Int) from (by omega)))), .w 4 1 IntKind.i64 (2) hq, .w 4 5 IntKind.i64 ((↑r : Int)) hr, .w 4 6 IntKind.u64 ((↑(1#64 <<< r).toNat : Int)) (E.S4.shl_e hm), .w 4 7 IntKind.u64 ((↑(setBit s.c r).toNat : Int)) (E.S4.or_e (w := s.c) (r := r)), .w 3 1 IntKind.i64 ((↑q : Int) + 1) (E.wrap_i64' (by omega))] (by kernel_rfl) rfl

theorem wl11d {m : Int} {fl r q : Nat} {hp : List Blk} {s : W4} {hi : UInt8} (hq : IntKind.wrap .i64 (Int.tdiv (q : Int) 64) = 3) (hr : Int.tmod (q : Int) 64 = (r : Int)) (hm : r < 64) (hb : q < 256) (hl : q ≤ hi.toNat) : LoopS (cfg m) fl 11 (bodyAt (cfg m) 11 2) 2 ⟨wSt 26 hi s q, hp⟩ ⟨wSt 26 hi { s with d := setBit s.d r } (q + 1), hp⟩ := by
  exact E.loopStepS (St.mk [J, J, TV.v (AU (↑hi.toNat : Int)), TV.bx [AW (↑s.a.toNat : Int), AW (↑s.b.toNat : Int), AW (↑s.c.toNat : Int), AW (↑(setBit s.d r).toNat : Int)], J, J, TV.bx [AW 0, AW 0, AW 0, AW 0], TV.v (AI ((↑q : Int) + 1)), J, J, J, J, J, J, J, J, J, J, J, J, J, J, J, J, J, J] hp) [.wc 2 2 IntKind.i64 ((↑hi.toNat : Int)) (hp) (E.wrap_i64' (by have := UInt8.toNat_lt (hi); omega)), .b 2 3 (decide_eq_true ((show (↑q : Int) ≤ (↑hi.toNat : Int) from (by omega)))), .w 4 1 IntKind.i64 (3) hq, .w 4 5 IntKind.i64 ((↑r : Int)) hr, .w 4 6 IntKind.u64 ((↑(1#64 <<< r).toNat : Int)) (E.S4.shl_e hm), .w 4 7 IntKind.u64 ((↑(setBit s.d r).toNat : Int)) (E.S4.or_e (w := s.d) (r := r)), .w 3 1 IntKind.i64 ((↑q : Int) + 1) (E.wrap_i64' (by omega))] (by kernel_rfl) rfl

theorem wx11 {m : Int} {fl q : Nat} {hp : List Blk} {s : W4} {hi : UInt8} (hb : q ≤ 256) (hl : ¬ q ≤ hi.toNat) : LoopI (cfg m) fl 11 (bodyAt (cfg m) 11 2) 2 ⟨wSt 26 hi s q, hp⟩ (.exit 0) ⟨wEnd 26 s, hp⟩ := by
  exact E.loopEndC (.exit 0) (St.mk [J, J, J, TV.bx [AW (↑s.a.toNat : Int), AW (↑s.b.toNat : Int), AW (↑s.c.toNat : Int), AW (↑s.d.toNat : Int)], J, J, TV.bx [AW 0, AW 0, AW 0, AW 0], J, J, J, J, J, J, J, J, J, J, J, J, J, J, J, J, J, J, J] hp) [.wc 2 2 IntKind.i64 ((↑hi.toNat : Int)) (hp) (E.wrap_i64' (by omega)), .b 2 3 (decide_eq_false ((show ¬(↑q : Int) ≤ (↑hi.toNat : Int) from (by omega))))] (by kernel_rfl) (fun h => by cases h) rfl

theorem with_loop11 {m : Int} {fl : Nat} {hp : List Blk} {hi : UInt8} : ∀ (c q : Nat) (s : W4), q ≤ 256 → c = hi.toNat + 1 - q → LoopI (cfg m) fl 11 (bodyAt (cfg m) 11 2) 2 ⟨wSt 26 hi s q, hp⟩ (.exit 0) ⟨wEnd 26 (s.addN c q), hp⟩
  | 0, q, s, hq, hc => wx11 hq (by omega)
  | c + 1, q, s, hq, hc => by
    have hi' := hi.toNat_lt
    have hm : q % 64 < 64 := Nat.mod_lt _ (by omega)
    have ih := with_loop11 (m := m) (fl := fl) (hp := hp) (hi := hi) c (q + 1) (s.add q) (by omega) (by omega)
    have e : (s.addN (c + 1) q) = (s.add q).addN c (q + 1) := rfl
    rw [e]
    unfold W4.add at ih ⊢
    rcases (by omega : q / 64 = 0 ∨ q / 64 = 1 ∨ q / 64 = 2 ∨ q / 64 = 3) with h | h | h | h <;> rw [h] at ih ⊢
    · exact wl11a (tdiv_w h (by omega)) (tmod_w q) hm (by omega) (by omega) _ _ ih
    · exact wl11b (tdiv_w h (by omega)) (tmod_w q) hm (by omega) (by omega) _ _ ih
    · exact wl11c (tdiv_w h (by omega)) (tmod_w q) hm (by omega) (by omega) _ _ ih
    · exact wl11d (tdiv_w h (by omega)) (tmod_w q) hm (by omega) (by omega) _ _ ih
theorem with_lp11 {m : Int} {fl : Nat} {hp : List Blk} {lo hi : UInt8} {a b c d : BitVec 64} : LoopI (cfg m) fl 11 (bodyAt (cfg m) 11 2) 2 ⟨wSt 26 hi ⟨a, b, c, d⟩ lo.toNat, hp⟩ (.exit 0) ⟨wEnd 26 ((W4.mk a b c d).with lo hi), hp⟩ :=
  with_loop11 _ _ _ (by have := lo.toNat_lt; omega) rfl

theorem with11 {m : Int} {fl : Nat} {hp : List Blk} {lo hi : UInt8} {a b c d : BitVec 64} : evI (cfg m) fl 11 [.agg [wAV a, wAV b, wAV c, wAV d], .int .u8 lo.toNat, .int .u8 hi.toNat] hp = some (.agg ((W4.mk a b c d).with lo hi).av, hp) := by
  exact E.evX (AV.agg [AW (↑((W4.mk a b c d).with lo hi).a.toNat : Int), AW (↑((W4.mk a b c d).with lo hi).b.toNat : Int), AW (↑((W4.mk a b c d).with lo hi).c.toNat : Int), AW (↑((W4.mk a b c d).with lo hi).d.toNat : Int)]) (hp) [.wc 1 1 IntKind.i64 ((↑lo.toNat : Int)) (hp) (E.wrap_i64' (by have := UInt8.toNat_lt (lo); omega)), .l 2 (E.S4.with_lp11 (m := m) (fl := hp.length) (hp := hp) (lo := lo) (hi := hi) (a := a) (b := b) (c := c) (d := d))] (by kernel_rfl) (E.tlP (by kernel_rfl) rfl (E.shutT (v := AV.agg [AW (↑((W4.mk a b c d).with lo hi).a.toNat : Int), AW (↑((W4.mk a b c d).with lo hi).b.toNat : Int), AW (↑((W4.mk a b c d).with lo hi).c.toNat : Int), AW (↑((W4.mk a b c d).with lo hi).d.toNat : Int)]) (v' := AV.agg [AW (↑((W4.mk a b c d).with lo hi).a.toNat : Int), AW (↑((W4.mk a b c d).with lo hi).b.toNat : Int), AW (↑((W4.mk a b c d).with lo hi).c.toNat : Int), AW (↑((W4.mk a b c d).with lo hi).d.toNat : Int)]) (by kernel_rfl))) rfl

theorem wl12a {m : Int} {fl r q : Nat} {hp : List Blk} {s : W4} {hi : UInt8} (hq : IntKind.wrap .i64 (Int.tdiv (q : Int) 64) = 0) (hr : Int.tmod (q : Int) 64 = (r : Int)) (hm : r < 64) (hb : q < 256) (hl : q ≤ hi.toNat) : LoopS (cfg m) fl 12 (bodyAt (cfg m) 12 2) 2 ⟨wSt 28 hi s q, hp⟩ ⟨wSt 28 hi { s with a := setBit s.a r } (q + 1), hp⟩ := by
  exact E.loopStepS (St.mk [J, J, TV.v (AU (↑hi.toNat : Int)), TV.bx [AW (↑(setBit s.a r).toNat : Int), AW (↑s.b.toNat : Int), AW (↑s.c.toNat : Int), AW (↑s.d.toNat : Int)], J, J, TV.bx [AW 0, AW 0, AW 0, AW 0], TV.v (AI ((↑q : Int) + 1)), J, J, J, J, J, J, J, J, J, J, J, J, J, J, J, J, J, J, J, J] hp) [.wc 2 2 IntKind.i64 ((↑hi.toNat : Int)) (hp) (E.wrap_i64' (by have := UInt8.toNat_lt (hi); omega)), .b 2 3 (decide_eq_true ((show (↑q : Int) ≤ (↑hi.toNat : Int) from (by omega)))), .w 4 1 IntKind.i64 (0) hq, .w 4 3 IntKind.i64 (0) hq, .w 4 7 IntKind.i64 ((↑r : Int)) hr, .w 4 8 IntKind.u64 ((↑(1#64 <<< r).toNat : Int)) (E.S4.shl_e hm), .w 4 9 IntKind.u64 ((↑(setBit s.a r).toNat : Int)) (E.S4.or_e (w := s.a) (r := r)), .w 3 1 IntKind.i64 ((↑q : Int) + 1) (E.wrap_i64' (by omega))] (by kernel_rfl) rfl

theorem wl12b {m : Int} {fl r q : Nat} {hp : List Blk} {s : W4} {hi : UInt8} (hq : IntKind.wrap .i64 (Int.tdiv (q : Int) 64) = 1) (hr : Int.tmod (q : Int) 64 = (r : Int)) (hm : r < 64) (hb : q < 256) (hl : q ≤ hi.toNat) : LoopS (cfg m) fl 12 (bodyAt (cfg m) 12 2) 2 ⟨wSt 28 hi s q, hp⟩ ⟨wSt 28 hi { s with b := setBit s.b r } (q + 1), hp⟩ := by
  exact E.loopStepS (St.mk [J, J, TV.v (AU (↑hi.toNat : Int)), TV.bx [AW (↑s.a.toNat : Int), AW (↑(setBit s.b r).toNat : Int), AW (↑s.c.toNat : Int), AW (↑s.d.toNat : Int)], J, J, TV.bx [AW 0, AW 0, AW 0, AW 0], TV.v (AI ((↑q : Int) + 1)), J, J, J, J, J, J, J, J, J, J, J, J, J, J, J, J, J, J, J, J] hp) [.wc 2 2 IntKind.i64 ((↑hi.toNat : Int)) (hp) (E.wrap_i64' (by have := UInt8.toNat_lt (hi); omega)), .b 2 3 (decide_eq_true ((show (↑q : Int) ≤ (↑hi.toNat : Int) from (by omega)))), .w 4 1 IntKind.i64 (1) hq, .w 4 3 IntKind.i64 (1) hq, .w 4 7 IntKind.i64 ((↑r : Int)) hr, .w 4 8 IntKind.u64 ((↑(1#64 <<< r).toNat : Int)) (E.S4.shl_e hm), .w 4 9 IntKind.u64 ((↑(setBit s.b r).toNat : Int)) (E.S4.or_e (w := s.b) (r := r)), .w 3 1 IntKind.i64 ((↑q : Int) + 1) (E.wrap_i64' (by omega))] (by kernel_rfl) rfl

theorem wl12c {m : Int} {fl r q : Nat} {hp : List Blk} {s : W4} {hi : UInt8} (hq : IntKind.wrap .i64 (Int.tdiv (q : Int) 64) = 2) (hr : Int.tmod (q : Int) 64 = (r : Int)) (hm : r < 64) (hb : q < 256) (hl : q ≤ hi.toNat) : LoopS (cfg m) fl 12 (bodyAt (cfg m) 12 2) 2 ⟨wSt 28 hi s q, hp⟩ ⟨wSt 28 hi { s with c := setBit s.c r } (q + 1), hp⟩ := by
  exact E.loopStepS (St.mk [J, J, TV.v (AU (↑hi.toNat : Int)), TV.bx [AW (↑s.a.toNat : Int), AW (↑s.b.toNat : Int), AW (↑(setBit s.c r).toNat : Int), AW (↑s.d.toNat : Int)], J, J, TV.bx [AW 0, AW 0, AW 0, AW 0], TV.v (AI ((↑q : Int) + 1)), J, J, J, J, J, J, J, J, J, J, J, J, J, J, J, J, J, J, J, J] hp) [.wc 2 2 IntKind.i64 ((↑hi.toNat : Int)) (hp) (E.wrap_i64' (by have := UInt8.toNat_lt (hi); omega)), .b 2 3 (decide_eq_true ((show (↑q : Int) ≤ (↑hi.toNat : Int) from (by omega)))), .w 4 1 IntKind.i64 (2) hq, .w 4 3 IntKind.i64 (2) hq, .w 4 7 IntKind.i64 ((↑r : Int)) hr, .w 4 8 IntKind.u64 ((↑(1#64 <<< r).toNat : Int)) (E.S4.shl_e hm), .w 4 9 IntKind.u64 ((↑(setBit s.c r).toNat : Int)) (E.S4.or_e (w := s.c) (r := r)), .w 3 1 IntKind.i64 ((↑q : Int) + 1) (E.wrap_i64' (by omega))] (by kernel_rfl) rfl

theorem wl12d {m : Int} {fl r q : Nat} {hp : List Blk} {s : W4} {hi : UInt8} (hq : IntKind.wrap .i64 (Int.tdiv (q : Int) 64) = 3) (hr : Int.tmod (q : Int) 64 = (r : Int)) (hm : r < 64) (hb : q < 256) (hl : q ≤ hi.toNat) : LoopS (cfg m) fl 12 (bodyAt (cfg m) 12 2) 2 ⟨wSt 28 hi s q, hp⟩ ⟨wSt 28 hi { s with d := setBit s.d r } (q + 1), hp⟩ := by
  exact E.loopStepS (St.mk [J, J, TV.v (AU (↑hi.toNat : Int)), TV.bx [AW (↑s.a.toNat : Int), AW (↑s.b.toNat : Int), AW (↑s.c.toNat : Int), AW (↑(setBit s.d r).toNat : Int)], J, J, TV.bx [AW 0, AW 0, AW 0, AW 0], TV.v (AI ((↑q : Int) + 1)), J, J, J, J, J, J, J, J, J, J, J, J, J, J, J, J, J, J, J, J] hp) [.wc 2 2 IntKind.i64 ((↑hi.toNat : Int)) (hp) (E.wrap_i64' (by have := UInt8.toNat_lt (hi); omega)), .b 2 3 (decide_eq_true ((show (↑q : Int) ≤ (↑hi.toNat : Int) from (by omega)))), .w 4 1 IntKind.i64 (3) hq, .w 4 3 IntKind.i64 (3) hq, .w 4 7 IntKind.i64 ((↑r : Int)) hr, .w 4 8 IntKind.u64 ((↑(1#64 <<< r).toNat : Int)) (E.S4.shl_e hm), .w 4 9 IntKind.u64 ((↑(setBit s.d r).toNat : Int)) (E.S4.or_e (w := s.d) (r := r)), .w 3 1 IntKind.i64 ((↑q : Int) + 1) (E.wrap_i64' (by omega))] (by kernel_rfl) rfl

theorem wx12 {m : Int} {fl q : Nat} {hp : List Blk} {s : W4} {hi : UInt8} (hb : q ≤ 256) (hl : ¬ q ≤ hi.toNat) : LoopI (cfg m) fl 12 (bodyAt (cfg m) 12 2) 2 ⟨wSt 28 hi s q, hp⟩ (.exit 0) ⟨wEnd 28 s, hp⟩ := by
  exact E.loopEndC (.exit 0) (St.mk [J, J, J, TV.bx [AW (↑s.a.toNat : Int), AW (↑s.b.toNat : Int), AW (↑s.c.toNat : Int), AW (↑s.d.toNat : Int)], J, J, TV.bx [AW 0, AW 0, AW 0, AW 0], J, J, J, J, J, J, J, J, J, J, J, J, J, J, J, J, J, J, J, J, J] hp) [.wc 2 2 IntKind.i64 ((↑hi.toNat : Int)) (hp) (E.wrap_i64' (by omega)), .b 2 3 (decide_eq_false ((show ¬(↑q : Int) ≤ (↑hi.toNat : Int) from (by omega))))] (by kernel_rfl) (fun h => by cases h) rfl

theorem with_loop12 {m : Int} {fl : Nat} {hp : List Blk} {hi : UInt8} : ∀ (c q : Nat) (s : W4), q ≤ 256 → c = hi.toNat + 1 - q → LoopI (cfg m) fl 12 (bodyAt (cfg m) 12 2) 2 ⟨wSt 28 hi s q, hp⟩ (.exit 0) ⟨wEnd 28 (s.addN c q), hp⟩
  | 0, q, s, hq, hc => wx12 hq (by omega)
  | c + 1, q, s, hq, hc => by
    have hi' := hi.toNat_lt
    have hm : q % 64 < 64 := Nat.mod_lt _ (by omega)
    have ih := with_loop12 (m := m) (fl := fl) (hp := hp) (hi := hi) c (q + 1) (s.add q) (by omega) (by omega)
    have e : (s.addN (c + 1) q) = (s.add q).addN c (q + 1) := rfl
    rw [e]
    unfold W4.add at ih ⊢
    rcases (by omega : q / 64 = 0 ∨ q / 64 = 1 ∨ q / 64 = 2 ∨ q / 64 = 3) with h | h | h | h <;> rw [h] at ih ⊢
    · exact wl12a (tdiv_w h (by omega)) (tmod_w q) hm (by omega) (by omega) _ _ ih
    · exact wl12b (tdiv_w h (by omega)) (tmod_w q) hm (by omega) (by omega) _ _ ih
    · exact wl12c (tdiv_w h (by omega)) (tmod_w q) hm (by omega) (by omega) _ _ ih
    · exact wl12d (tdiv_w h (by omega)) (tmod_w q) hm (by omega) (by omega) _ _ ih
theorem with_lp12 {m : Int} {fl : Nat} {hp : List Blk} {lo hi : UInt8} {a b c d : BitVec 64} : LoopI (cfg m) fl 12 (bodyAt (cfg m) 12 2) 2 ⟨wSt 28 hi ⟨a, b, c, d⟩ lo.toNat, hp⟩ (.exit 0) ⟨wEnd 28 ((W4.mk a b c d).with lo hi), hp⟩ :=
  with_loop12 _ _ _ (by have := lo.toNat_lt; omega) rfl

theorem with12 {m : Int} {fl : Nat} {hp : List Blk} {lo hi : UInt8} {a b c d : BitVec 64} : evI (cfg m) fl 12 [.agg [wAV a, wAV b, wAV c, wAV d], .int .u8 lo.toNat, .int .u8 hi.toNat] hp = some (.agg ((W4.mk a b c d).with lo hi).av, hp) := by
  exact E.evX (AV.agg [AW (↑((W4.mk a b c d).with lo hi).a.toNat : Int), AW (↑((W4.mk a b c d).with lo hi).b.toNat : Int), AW (↑((W4.mk a b c d).with lo hi).c.toNat : Int), AW (↑((W4.mk a b c d).with lo hi).d.toNat : Int)]) (hp) [.wc 1 1 IntKind.i64 ((↑lo.toNat : Int)) (hp) (E.wrap_i64' (by have := UInt8.toNat_lt (lo); omega)), .l 2 (E.S4.with_lp12 (m := m) (fl := hp.length) (hp := hp) (lo := lo) (hi := hi) (a := a) (b := b) (c := c) (d := d))] (by kernel_rfl) (E.tlP (by kernel_rfl) rfl (E.shutT (v := AV.agg [AW (↑((W4.mk a b c d).with lo hi).a.toNat : Int), AW (↑((W4.mk a b c d).with lo hi).b.toNat : Int), AW (↑((W4.mk a b c d).with lo hi).c.toNat : Int), AW (↑((W4.mk a b c d).with lo hi).d.toNat : Int)]) (v' := AV.agg [AW (↑((W4.mk a b c d).with lo hi).a.toNat : Int), AW (↑((W4.mk a b c d).with lo hi).b.toNat : Int), AW (↑((W4.mk a b c d).with lo hi).c.toNat : Int), AW (↑((W4.mk a b c d).with lo hi).d.toNat : Int)]) (by kernel_rfl))) rfl

end Go.Proofs.YtanopbolgfcojaaDoor.E.S4
