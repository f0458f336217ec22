/- Any set has, with more, the bytes that the chapter says: the law. -/
import Derived.Test.YtanopbolgfcojaaDoorEMany
import Derived.Test.YtanopbolgfcojaaDoorESame
set_option linter.unusedSimpArgs false
set_option linter.unusedVariables false
namespace Go.Proofs.YtanopbolgfcojaaDoor.E.S4
open Go Go.Proofs E E.R PC
theorem sets_law {m : Int} {s : W4} {lo hi b : UInt8} (hex : evI (cfg m) 0 10 [] [] = some (.bool true, [])) : evI (cfg m) 0 3 [.agg [wAV s.a, wAV s.b, wAV s.c, wAV s.d], .int .u8 lo.toNat, .int .u8 hi.toNat, .int .u8 b.toNat] [] = some (.bool true, []) := by
  rcases E.bcases (s.has b.toNat) with h1 | h1
  · exact E.evX (AV.bool true) ([]) [.c 1 0 hex, .c 4 3 (E.S4.with11 (m := m) (fl := 0) (hp := []) (lo := lo) (hi := hi) (a := s.a) (b := s.b) (c := s.c) (d := s.d)), .c 5 3 (E.S4.with12 (m := m) (fl := 0) (hp := []) (lo := lo) (hi := hi) (a := s.a) (b := s.b) (c := s.c) (d := s.d)), .vb 6 4 (E.eqW4 (C := cfg m) (t := 27) (cst := false) (a := ((W4.mk s.a s.b s.c s.d).with lo hi).a) (b := ((W4.mk s.a s.b s.c s.d).with lo hi).b) (c := ((W4.mk s.a s.b s.c s.d).with lo hi).c) (d := ((W4.mk s.a s.b s.c s.d).with lo hi).d) (a' := ((W4.mk s.a s.b s.c s.d).with lo hi).a) (b' := ((W4.mk s.a s.b s.c s.d).with lo hi).b) (c' := ((W4.mk s.a s.b s.c s.d).with lo hi).c) (d' := ((W4.mk s.a s.b s.c s.d).with lo hi).d) (by kernel_rfl)) (decide_eq_true ((show W4.mk ((W4.mk s.a s.b s.c s.d).with lo hi).a ((W4.mk s.a s.b s.c s.d).with lo hi).b ((W4.mk s.a s.b s.c s.d).with lo hi).c ((W4.mk s.a s.b s.c s.d).with lo hi).d = W4.mk ((W4.mk s.a s.b s.c s.d).with lo hi).a ((W4.mk s.a s.b s.c s.d).with lo hi).b ((W4.mk s.a s.b s.c s.d).with lo hi).c ((W4.mk s.a s.b s.c s.d).with lo hi).d from (by kernel_rfl)))), .cb 6 9 (E.S4.has13 (m := m) (fl := 0) (hp := []) (s := s) (x := b)) h1, .cb 6 12 (E.S4.has14 (m := m) (fl := 0) (hp := []) (s := s) (x := b)) h1, .c 6 17 (E.S4.many_ok (m := m) (fl := 0) (hp := []) (s := s)), .c 6 19 (E.S4.rmany_ok (m := m) (fl := 0) (hp := []) (s := s)), .b 6 20 (beq_iff_eq.2 ((show (↑(W4.cntTo s 256) : Int) = (↑(W4.cntTo s 256) : Int) from rfl))), .c 6 24 (E.S4.many_ok (m := m) (fl := 0) (hp := []) (s := (W4.mk s.a s.b s.c s.d).with lo hi)), .c 6 26 (E.S4.rmany_ok (m := m) (fl := 0) (hp := []) (s := (W4.mk s.a s.b s.c s.d).with lo hi)), .b 6 27 (beq_iff_eq.2 ((show (↑(W4.cntTo ((W4.mk s.a s.b s.c s.d).with lo hi) 256) : Int) = (↑(W4.cntTo ((W4.mk s.a s.b s.c s.d).with lo hi) 256) : Int) from rfl)))] (by kernel_rfl) (E.tlP (by kernel_rfl) rfl (E.shutT (v := AV.bool true) (v' := AV.bool true) (by kernel_rfl))) rfl
  · exact E.evX (AV.bool true) ([]) [.c 1 0 hex, .c 4 3 (E.S4.with11 (m := m) (fl := 0) (hp := []) (lo := lo) (hi := hi) (a := s.a) (b := s.b) (c := s.c) (d := s.d)), .c 5 3 (E.S4.with12 (m := m) (fl := 0) (hp := []) (lo := lo) (hi := hi) (a := s.a) (b := s.b) (c := s.c) (d := s.d)), .vb 6 4 (E.eqW4 (C := cfg m) (t := 27) (cst := false) (a := ((W4.mk s.a s.b s.c s.d).with lo hi).a) (b := ((W4.mk s.a s.b s.c s.d).with lo hi).b) (c := ((W4.mk s.a s.b s.c s.d).with lo hi).c) (d := ((W4.mk s.a s.b s.c s.d).with lo hi).d) (a' := ((W4.mk s.a s.b s.c s.d).with lo hi).a) (b' := ((W4.mk s.a s.b s.c s.d).with lo hi).b) (c' := ((W4.mk s.a s.b s.c s.d).with lo hi).c) (d' := ((W4.mk s.a s.b s.c s.d).with lo hi).d) (by kernel_rfl)) (decide_eq_true ((show W4.mk ((W4.mk s.a s.b s.c s.d).with lo hi).a ((W4.mk s.a s.b s.c s.d).with lo hi).b ((W4.mk s.a s.b s.c s.d).with lo hi).c ((W4.mk s.a s.b s.c s.d).with lo hi).d = W4.mk ((W4.mk s.a s.b s.c s.d).with lo hi).a ((W4.mk s.a s.b s.c s.d).with lo hi).b ((W4.mk s.a s.b s.c s.d).with lo hi).c ((W4.mk s.a s.b s.c s.d).with lo hi).d from (by kernel_rfl)))), .cb 6 9 (E.S4.has13 (m := m) (fl := 0) (hp := []) (s := s) (x := b)) h1, .cb 6 12 (E.S4.has14 (m := m) (fl := 0) (hp := []) (s := s) (x := b)) h1, .c 6 17 (E.S4.many_ok (m := m) (fl := 0) (hp := []) (s := s)), .c 6 19 (E.S4.rmany_ok (m := m) (fl := 0) (hp := []) (s := s)), .b 6 20 (beq_iff_eq.2 ((show (↑(W4.cntTo s 256) : Int) = (↑(W4.cntTo s 256) : Int) from rfl))), .c 6 24 (E.S4.many_ok (m := m) (fl := 0) (hp := []) (s := (W4.mk s.a s.b s.c s.d).with lo hi)), .c 6 26 (E.S4.rmany_ok (m := m) (fl := 0) (hp := []) (s := (W4.mk s.a s.b s.c s.d).with lo hi)), .b 6 27 (beq_iff_eq.2 ((show (↑(W4.cntTo ((W4.mk s.a s.b s.c s.d).with lo hi) 256) : Int) = (↑(W4.cntTo ((W4.mk s.a s.b s.c s.d).with lo hi) 256) : Int) from rfl)))] (by kernel_rfl) (E.tlP (by kernel_rfl) rfl (E.shutT (v := AV.bool true) (v' := AV.bool true) (by kernel_rfl))) rfl

theorem bv_of {n : Int} (h : (Lit.int .u64 n).wf = true) : ∃ x : BitVec 64, AV.int .u64 n = wAV x := by
  simp [Lit.wf, IntKind.min, IntKind.max, IntKind.signed, IntKind.bits] at h
  refine ⟨BitVec.ofNat 64 n.toNat, ?_⟩
  have : (BitVec.ofNat 64 n.toNat).toNat = n.toNat := by rw [BitVec.toNat_ofNat]; exact Nat.mod_eq_of_lt (by omega)
  show AV.int .u64 n = AV.int .u64 _
  rw [this]; congr 1; omega
theorem u8_of {a : Int} (h : 0 ≤ a ∧ a ≤ 255) : ∃ k : UInt8, ((k.toNat : Nat) : Int) = a := by
  refine ⟨UInt8.ofNat a.toNat, ?_⟩
  rw [UInt8.toNat_ofNat_of_lt' (by show a.toNat < 256; omega)]
  omega
/-- a set of bytes that came in -/
theorem set_of {x : AV} {m : Int} (h : Sh (cfg m) 6 24 x) : ∃ s : W4, x = .agg s.av := by
  have e1 : (cfg m).ty 24 = some ⟨.array 4 22, 4, 32, [.int .u64 0, .int .u64 0, .int .u64 0, .int .u64 0], true⟩ := by kernel_rfl
  have e2 : (cfg m).ty 22 = some ⟨.int .u64, 1, 8, [.int .u64 0], true⟩ := by kernel_rfl
  unfold Sh at h
  rw [e1] at h
  obtain ⟨cs, rfl, hl, hc⟩ := h
  obtain ⟨a, b, c, d, rfl⟩ : ∃ a b c d, cs = [a, b, c, d] := by
    match cs, hl with
    | [a, b, c, d], _ => exact ⟨a, b, c, d, rfl⟩
  have get : ∀ (i : Nat) (y : AV), i < 4 → getAt [a, b, c, d] i = some y → ∃ z : BitVec 64, y = wAV z := by
    intro i y hi hy
    obtain ⟨ei, u, h1, h2, h3⟩ := hc i hi
    rw [e2] at h1; cases h1
    unfold Sh at h3
    rw [e2] at h3
    obtain ⟨n, rfl, hw⟩ := h3
    obtain ⟨z, hz⟩ := bv_of hw
    refine ⟨z, ?_⟩
    simp only [part, TK.agg, cond_false rfl, Nat.mul_one] at h2
    rw [hy] at h2
    rw [← hz]; exact Option.some.inj h2
  obtain ⟨a', rfl⟩ := get 0 a (by omega) rfl
  obtain ⟨b', rfl⟩ := get 1 b (by omega) rfl
  obtain ⟨c', rfl⟩ := get 2 c (by omega) rfl
  obtain ⟨d', rfl⟩ := get 3 d (by omega) rfl
  exact ⟨⟨a', b', c', d'⟩, rfl⟩
theorem sets_all (x : AV) (a1 a2 a3 : Int) (h1 : 0 ≤ a1 ∧ a1 ≤ 255) (h2 : 0 ≤ a2 ∧ a2 ≤ 255) (h3 : 0 ≤ a3 ∧ a3 ≤ 255) (hx : Sh (cfg 0) 6 24 x) (hex : evI (cfg 0) 0 10 [] [] = some (.bool true, [])) : evI (cfg 0) 0 3 [x, .int .u8 a1, .int .u8 a2, .int .u8 a3] [] = some (.bool true, []) := by
  obtain ⟨s, rfl⟩ := set_of hx
  obtain ⟨l, rfl⟩ := u8_of h1
  obtain ⟨k, rfl⟩ := u8_of h2
  obtain ⟨b, rfl⟩ := u8_of h3
  exact sets_law hex
end Go.Proofs.YtanopbolgfcojaaDoor.E.S4
