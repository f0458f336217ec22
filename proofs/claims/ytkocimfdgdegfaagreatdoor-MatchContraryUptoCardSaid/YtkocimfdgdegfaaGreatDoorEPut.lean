/- Steps of the seat's proofs. -/
import Derived.Test.YtkocimfdgdegfaaGreatDoorESet
import Derived.Test.YtkocimfdgdegfaaGreatDoorEh
import Derived.Test.YtkocimfdgdegfaaGreatDoorETab
set_option linter.unusedSimpArgs false
set_option linter.unusedVariables false
namespace Go.Proofs.YtkocimfdgdegfaaGreatDoor.E.S11
open Go Go.Proofs E E.R
abbrev fHas : Nat := 60
abbrev fPut : Nat := 47
abbrev fAt : Nat := 48
abbrev fStep : Nat := 49
abbrev fMatches : Nat := 35
abbrev natAV (k : Nat) : AV := .int .i64 (k : Int)

theorem shr_ok {x : BitVec 64} {m : Nat} (h : m < 64) : shiftE .shr .u64 (x.toNat : Int) (m : Int) = some (.int .u64 ((x >>> m).toNat : Int)) := by
  unfold shiftE
  rw [decide_eq_false (by omega), cond_false rfl]
  have e : Nat.min (Int.toNat (m : Int)) IntKind.u64.bits = m := by
    show min (Int.toNat (m : Int)) 64 = m
    omega
  simp only [e]
  congr 2
  have h2 : (0 : Int) ≤ 2 ^ m := Int.pow_nonneg (by omega)
  rw [Int.fdiv_eq_ediv_of_nonneg _ h2]
  have : ((x.toNat : Int) / 2 ^ m) = ((x.toNat / 2 ^ m : Nat) : Int) := by simp
  rw [this, BitVec.toNat_ushiftRight, Nat.shiftRight_eq_div_pow]
theorem shr_fd {x : BitVec 64} {r : Nat} (h : r < 64) : (x.toNat : Int).fdiv (2 ^ ((r : Int).toNat.min IntKind.u64.bits)) = ((x >>> r).toNat : Int) := by
  have := shr_ok (x := x) h
  unfold shiftE at this
  rw [decide_eq_false (by omega), cond_false rfl] at this
  simpa using this
theorem bit_ok {x : BitVec 64} {m : Nat} (h : m < 64) : ((IntKind.u64.wrap ((BitVec.ofInt IntKind.u64.bits ((x >>> m).toNat : Int) &&& BitVec.ofInt IntKind.u64.bits 1).toNat : Int) == 1)) = x.getLsbD m := by
  rw [ofInt_w]
  have e1 : BitVec.ofInt IntKind.u64.bits 1 = 1#64 := rfl
  rw [e1]
  have e2 : ((x >>> m) &&& 1#64).toNat = (x.getLsbD m).toNat := by
    rw [BitVec.toNat_and, BitVec.toNat_ushiftRight, BitVec.getLsbD, Nat.testBit]
    simp [Nat.and_comm, Nat.one_and_eq_mod_two]
    have := Nat.mod_two_eq_zero_or_one (x.toNat >>> m)
    rcases this with h | h <;> simp [h]
  have e3 : IntKind.u64.wrap (((x >>> m &&& 1#64).toNat : Nat) : Int) = ((x.getLsbD m).toNat : Int) := by
    rw [e2, wrap_u64 (by omega) (by have := Bool.toNat_lt (x.getLsbD m); omega)]
  show ((IntKind.u64.wrap (((x >>> m &&& 1#64).toNat : Nat) : Int)) == 1) = _
  rw [e3]
  cases x.getLsbD m <;> rfl
theorem quo64 {c j : Nat} (h : c / 64 = j) (hc : c < 256) : IntKind.wrap .u8 (Int.tdiv (c : Int) 64) = (j : Int) := by
  have : Int.tdiv (c : Int) 64 = (j : Int) := by rw [Int.tdiv_eq_ediv_of_nonneg (by omega)]; omega
  rw [this]; exact wrap_u8 (by omega) (by omega)
theorem rem64 {c r : Nat} (h : c % 64 = r) : Int.tmod (c : Int) 64 = (r : Int) := by
  rw [Int.tmod_eq_emod_of_nonneg (by omega)]; omega

theorem has0 {m : Int} {fl : Nat} {hp : List Blk} {s : W4} {c : UInt8} {r : Nat} (hq : IntKind.wrap .u8 (Int.tdiv (c.toNat : Int) 64) = 0) (hr : Int.tmod (c.toNat : Int) 64 = (r : Int)) (hl : r < 64) : evI (cfg m) fl fHas [.agg s.av, .int .u8 c.toNat] hp = some (.bool (s.a.getLsbD r), hp) := by
  rcases E.bcases (s.a.getLsbD r) with h1 | h1
  · exact E.evX (AV.bool true) (hp) [.w 1 1 IntKind.u8 (0) hq, .w 1 5 IntKind.u8 ((↑r : Int)) hr, .w 1 6 IntKind.u64 ((↑(s.a >>> r).toNat : Int)) (E.S11.shr_fd (x := s.a) hl), .b 1 8 (((E.S11.bit_ok (x := s.a) hl)).trans h1)] (by kernel_rfl) (E.tlP (by kernel_rfl) rfl (E.shutT (v := AV.bool true) (v' := AV.bool true) (by kernel_rfl))) (by rw [h1])
  · exact E.evX (AV.bool false) (hp) [.w 1 1 IntKind.u8 (0) hq, .w 1 5 IntKind.u8 ((↑r : Int)) hr, .w 1 6 IntKind.u64 ((↑(s.a >>> r).toNat : Int)) (E.S11.shr_fd (x := s.a) hl), .b 1 8 (((E.S11.bit_ok (x := s.a) hl)).trans h1)] (by kernel_rfl) (E.tlP (by kernel_rfl) rfl (E.shutT (v := AV.bool false) (v' := AV.bool false) (by kernel_rfl))) (by rw [h1])
theorem has1 {m : Int} {fl : Nat} {hp : List Blk} {s : W4} {c : UInt8} {r : Nat} (hq : IntKind.wrap .u8 (Int.tdiv (c.toNat : Int) 64) = 1) (hr : Int.tmod (c.toNat : Int) 64 = (r : Int)) (hl : r < 64) : evI (cfg m) fl fHas [.agg s.av, .int .u8 c.toNat] hp = some (.bool (s.b.getLsbD r), hp) := by
  rcases E.bcases (s.b.getLsbD r) with h1 | h1
  · exact E.evX (AV.bool true) (hp) [.w 1 1 IntKind.u8 (1) hq, .w 1 5 IntKind.u8 ((↑r : Int)) hr, .w 1 6 IntKind.u64 ((↑(s.b >>> r).toNat : Int)) (E.S11.shr_fd (x := s.b) hl), .b 1 8 (((E.S11.bit_ok (x := s.b) hl)).trans h1)] (by kernel_rfl) (E.tlP (by kernel_rfl) rfl (E.shutT (v := AV.bool true) (v' := AV.bool true) (by kernel_rfl))) (by rw [h1])
  · exact E.evX (AV.bool false) (hp) [.w 1 1 IntKind.u8 (1) hq, .w 1 5 IntKind.u8 ((↑r : Int)) hr, .w 1 6 IntKind.u64 ((↑(s.b >>> r).toNat : Int)) (E.S11.shr_fd (x := s.b) hl), .b 1 8 (((E.S11.bit_ok (x := s.b) hl)).trans h1)] (by kernel_rfl) (E.tlP (by kernel_rfl) rfl (E.shutT (v := AV.bool false) (v' := AV.bool false) (by kernel_rfl))) (by rw [h1])
theorem has2 {m : Int} {fl : Nat} {hp : List Blk} {s : W4} {c : UInt8} {r : Nat} (hq : IntKind.wrap .u8 (Int.tdiv (c.toNat : Int) 64) = 2) (hr : Int.tmod (c.toNat : Int) 64 = (r : Int)) (hl : r < 64) : evI (cfg m) fl fHas [.agg s.av, .int .u8 c.toNat] hp = some (.bool (s.c.getLsbD r), hp) := by
  rcases E.bcases (s.c.getLsbD r) with h1 | h1
  · exact E.evX (AV.bool true) (hp) [.w 1 1 IntKind.u8 (2) hq, .w 1 5 IntKind.u8 ((↑r : Int)) hr, .w 1 6 IntKind.u64 ((↑(s.c >>> r).toNat : Int)) (E.S11.shr_fd (x := s.c) hl), .b 1 8 (((E.S11.bit_ok (x := s.c) hl)).trans h1)] (by kernel_rfl) (E.tlP (by kernel_rfl) rfl (E.shutT (v := AV.bool true) (v' := AV.bool true) (by kernel_rfl))) (by rw [h1])
  · exact E.evX (AV.bool false) (hp) [.w 1 1 IntKind.u8 (2) hq, .w 1 5 IntKind.u8 ((↑r : Int)) hr, .w 1 6 IntKind.u64 ((↑(s.c >>> r).toNat : Int)) (E.S11.shr_fd (x := s.c) hl), .b 1 8 (((E.S11.bit_ok (x := s.c) hl)).trans h1)] (by kernel_rfl) (E.tlP (by kernel_rfl) rfl (E.shutT (v := AV.bool false) (v' := AV.bool false) (by kernel_rfl))) (by rw [h1])
theorem has3 {m : Int} {fl : Nat} {hp : List Blk} {s : W4} {c : UInt8} {r : Nat} (hq : IntKind.wrap .u8 (Int.tdiv (c.toNat : Int) 64) = 3) (hr : Int.tmod (c.toNat : Int) 64 = (r : Int)) (hl : r < 64) : evI (cfg m) fl fHas [.agg s.av, .int .u8 c.toNat] hp = some (.bool (s.d.getLsbD r), hp) := by
  rcases E.bcases (s.d.getLsbD r) with h1 | h1
  · exact E.evX (AV.bool true) (hp) [.w 1 1 IntKind.u8 (3) hq, .w 1 5 IntKind.u8 ((↑r : Int)) hr, .w 1 6 IntKind.u64 ((↑(s.d >>> r).toNat : Int)) (E.S11.shr_fd (x := s.d) hl), .b 1 8 (((E.S11.bit_ok (x := s.d) hl)).trans h1)] (by kernel_rfl) (E.tlP (by kernel_rfl) rfl (E.shutT (v := AV.bool true) (v' := AV.bool true) (by kernel_rfl))) (by rw [h1])
  · exact E.evX (AV.bool false) (hp) [.w 1 1 IntKind.u8 (3) hq, .w 1 5 IntKind.u8 ((↑r : Int)) hr, .w 1 6 IntKind.u64 ((↑(s.d >>> r).toNat : Int)) (E.S11.shr_fd (x := s.d) hl), .b 1 8 (((E.S11.bit_ok (x := s.d) hl)).trans h1)] (by kernel_rfl) (E.tlP (by kernel_rfl) rfl (E.shutT (v := AV.bool false) (v' := AV.bool false) (by kernel_rfl))) (by rw [h1])
theorem has_ok {m : Int} {fl : Nat} {hp : List Blk} {a b c d : BitVec 64} {x : UInt8} : evI (cfg m) fl fHas [.agg [wAV a, wAV b, wAV c, wAV d], .int .u8 x.toNat] hp = some (.bool (W4.has ⟨a, b, c, d⟩ x.toNat), hp) := by
  have hx := x.toNat_lt
  have hl : x.toNat % 64 < 64 := Nat.mod_lt _ (by omega)
  unfold W4.has W4.word
  rcases (by omega : x.toNat / 64 = 0 ∨ x.toNat / 64 = 1 ∨ x.toNat / 64 = 2 ∨ x.toNat / 64 = 3) with h | h | h | h <;> rw [h]
  · exact has0 (s := ⟨a, b, c, d⟩) (quo64 h (by omega)) (rem64 rfl) hl
  · exact has1 (s := ⟨a, b, c, d⟩) (quo64 h (by omega)) (rem64 rfl) hl
  · exact has2 (s := ⟨a, b, c, d⟩) (quo64 h (by omega)) (rem64 rfl) hl
  · exact has3 (s := ⟨a, b, c, d⟩) (quo64 h (by omega)) (rem64 rfl) hl

/-- states that come to a text's place, each once -/
def putF : List Bool → List Nat → List Nat → List Bool × List Nat
  | m, l, [] => (m, l)
  | m, l, k :: ks => if m.getD k true = true then putF m l ks else putF (m.set k true) (l ++ [k]) ks


abbrev putSt (rb : Nat) (x : AV) (n i : Nat) : List TV := [.v (.ptr rb 0), J, J, J, J, J, .v x, .v (AI n), .v (AI i)] ++ List.replicate 28 J
abbrev putEnd : List TV := List.replicate 37 J
theorem append_nat {m : Int} {fl : Nat} {hp : List Blk} {x : AV} {l : List Nat} {k : Nat} (h : Gr fl 1 hp x (l.map natAV)) (hl : l.length < 1000000) (hf : fl ≤ hp.length) :
    ∃ x' hp', (∀ ts, builtinE (cfg m) fl false ⟨ts, hp⟩ .append [109, 109] [x, .lit 1 .exact [natAV k]] = some ⟨.v x', ts, hp', .fw⟩) ∧ Gr fl 1 hp' x' ((l ++ [k]).map natAV) ∧ FrC [] hp hp' := by
  obtain ⟨x', hp', h1, h2, h3⟩ := append_gr (C := cfg m) (t := 109) (y := .lit 1 .exact [natAV k]) (ws := [natAV k]) (bytes := 8) h (by rfl) (by kernel_rfl) (by simp) (by simp; omega) hf
  exact ⟨x', hp', h1, by simpa using h2, h3⟩
theorem list_set_len {n : Nat} {ms : List Bool} {k : Nat} (h : ms.length = n) : (ms.set k true).length = n := by simpa using h
theorem fl_len {fl b : Nat} {hp : List Blk} {cs : List AV} (h : blkCells hp b = some cs) (hf : fl ≤ b) : fl ≤ hp.length := by have := blk_lt h; omega

abbrev runB (mb n : Nat) (sl : AV) (pb : Nat) (s : List UInt8) : List AV := [.arr 1 mb 0 n, sl, .ptr pb 0, .str s]
theorem count_set : ∀ (ms : List Bool) (k : Nat), ms.getD k true = false → (ms.set k true).count false + 1 = ms.count false
  | [], k, h => by simp at h
  | b :: ms, 0, h => by simp at h; subst h; simp
  | b :: ms, k + 1, h => by
    have ih := count_set ms k (by simpa using h)
    simp only [List.set_cons_succ, List.count_cons]; omega
theorem putF_len : ∀ (ks : List Nat) (ms : List Bool) (l : List Nat), (putF ms l ks).1.length = ms.length
  | [], _, _ => rfl
  | k :: ks, ms, l => by unfold putF; split; · exact putF_len ks ms l
                         · rw [putF_len ks]; simp
theorem putF_count : ∀ (ks : List Nat) (ms : List Bool) (l : List Nat), (putF ms l ks).2.length + (putF ms l ks).1.count false = l.length + ms.count false
  | [], _, _ => rfl
  | k :: ks, ms, l => by
    unfold putF; split
    · exact putF_count ks ms l
    · rename_i h
      rw [putF_count ks]
      have := count_set ms k (by simpa using h)
      simp; omega

theorem count_step {n k : Nat} {ms : List Bool} {l : List Nat} (h : l.length + ms.count false = n) (h1 : ms.getD k true = false) : (l ++ [k]).length + (ms.set k true).count false = n := by
  have := count_set ms k h1
  simp; omega

theorem put_l {m : Int} {fl rb mb pb n : Nat} {hp : List Blk} {sl x : AV} {s : List UInt8} {ms : List Bool} {l ks : List Nat} {vs : List AV} {i k : Nat} (hb : blkCells hp rb = some [.arr 1 mb 0 n, sl, .ptr pb 0, .str s]) (hm : blkCells hp mb = some (ms.map .bool)) (hn : ms.length = n) (hc : l.length + ms.count false = n) (hg : Gr fl 1 hp sl (l.map natAV)) (hx : IsSl 1 x vs) (hv : vs[i]? = some (natAV k)) (hi : i < vs.length) (hk : k < n) (hf : fl ≤ rb) (hf2 : fl ≤ mb) (hne : rb ≠ mb) (hl : n < 1000000) (hvl : vs.length < 1000000) (ih : ∀ {hp1 : List Blk} {sl1 : AV} {ms1 : List Bool} {l1 : List Nat}, blkCells hp1 rb = some [.arr 1 mb 0 n, sl1, .ptr pb 0, .str s] → blkCells hp1 mb = some (ms1.map .bool) → Gr fl 1 hp1 sl1 (l1.map natAV) → ms1.length = n → l1.length + ms1.count false = n → ∃ hp' sl', LoopI (cfg m) fl fPut (bodyAt (cfg m) fPut 1) 1 ⟨putSt rb x vs.length (i + 1), hp1⟩ (.exit 0) ⟨putEnd, hp'⟩ ∧ blkCells hp' rb = some [.arr 1 mb 0 n, sl', .ptr pb 0, .str s] ∧ blkCells hp' mb = some ((putF ms1 l1 ks).1.map .bool) ∧ Gr fl 1 hp' sl' ((putF ms1 l1 ks).2.map natAV) ∧ FrC [rb, mb] hp1 hp') : ∃ hp' sl', LoopI (cfg m) fl fPut (bodyAt (cfg m) fPut 1) 1 ⟨putSt rb x vs.length i, hp⟩ (.exit 0) ⟨putEnd, hp'⟩ ∧ blkCells hp' rb = some [.arr 1 mb 0 n, sl', .ptr pb 0, .str s] ∧ blkCells hp' mb = some ((putF ms l (k :: ks)).1.map .bool) ∧ Gr fl 1 hp' sl' ((putF ms l (k :: ks)).2.map natAV) ∧ FrC [rb, mb] hp hp' := by
  rcases E.bcases (ms.getD k true) with h1 | h1
  · obtain ⟨hp'2, sl'3, e4, h5, h6, h7, h8⟩ := (ih hb hm hg hn hc)
    exact ⟨hp'2, _, E.loopStepC (St.mk [TV.v (AV.ptr rb 0), J, J, J, J, J, TV.v x, TV.v (AI (↑vs.length : Int)), TV.v (AI ((↑i : Int) + 1)), J, J, J, J, J, J, J, J, J, J, J, J, J, J, J, J, J, J, J, J, J, J, J, J, J, J, J, J] hp) [.b 1 0 (decide_eq_true ((show (↑i : Int) < (↑vs.length : Int) from (by omega)))), .a 2 0 (E.indexAddr_sl (C := cfg m) (t := 109) (n := (↑i : Int)) hx (by kernel_rfl) (by omega) hv), .m 3 3 (E.load_ok (C := cfg m) (t := 103) (off := 0) (x := AV.arr 1 mb 0 n) hb (by kernel_rfl)), .a 3 5 (E.indexAddr_arr' (C := cfg m) (t := 103) (sz := 1) (b := mb) (off := 0) (len := n) (o := k) (n := (↑k : Int)) (by kernel_rfl) (by omega) (by omega) (by simp only [Int.toNat_natCast, Nat.zero_add, Nat.mul_one])), .mb 3 6 (E.load_bools (C := cfg m) (t := 4) (off := k) (by kernel_rfl) hm (by omega)) h1, .w 6 0 IntKind.i64 ((↑i : Int) + 1) (E.wrap_i64' (by omega))] (by kernel_rfl) e4 rfl, by assumption, by simp only [putF, h1, Bool.false_eq_true, ↓reduceIte]; assumption, by simp only [putF, h1, Bool.false_eq_true, ↓reduceIte]; assumption, by first | assumption | exact FrC.put3 ‹FrC [] _ _› ‹FrC [rb, mb] _ _› (by simp) (by simp)⟩
  · obtain ⟨x'2, hp'3, e4, h5, h6⟩ := (E.S11.append_nat (m := m) (fl := fl) (hp := setAt hp mb (BC (List.map AV.bool (ms.set k true)))) (x := sl) (l := l) (k := k) (E.gr_set (c := List.map AV.bool (ms.set k true)) hg hm) (by omega) (E.S11.fl_len (hp := setAt hp mb (BC (List.map AV.bool (ms.set k true)))) (cs := List.map AV.bool (ms.set k true)) (E.blk_set (E.blk_lt hm)) hf2))
    obtain ⟨hp'7, sl'8, e9, h10, h11, h12, h13⟩ := (ih (hp1 := setAt hp'3 rb (BC [AV.arr 1 mb 0 n, x'2, AV.ptr pb 0, AV.str s])) (sl1 := x'2) (ms1 := ms.set k true) (l1 := l ++ [k]) (E.blk_set (E.blk_lt (hp := hp'3) (b := rb) (cs := [AV.arr 1 mb 0 n, sl, AV.ptr pb 0, AV.str s]) (E.frC_blk (b := rb) (cs := [AV.arr 1 mb 0 n, sl, AV.ptr pb 0, AV.str s]) h6 (E.blk_set_ne (by omega) hb) (by simp_all; done)))) (E.blk_set_ne hne (E.frC_blk (b := mb) (cs := List.map AV.bool (ms.set k true)) h6 (E.blk_set (E.blk_lt hm)) (by simp_all; done))) (E.gr_set (b := rb) (cs := [AV.arr 1 mb 0 n, sl, AV.ptr pb 0, AV.str s]) (c := [AV.arr 1 mb 0 n, x'2, AV.ptr pb 0, AV.str s]) h5 (E.frC_blk (b := rb) (cs := [AV.arr 1 mb 0 n, sl, AV.ptr pb 0, AV.str s]) h6 (E.blk_set_ne (by omega) hb) (by simp_all; done))) (E.S11.list_set_len (k := k) hn) (E.S11.count_step hc h1))
    exact ⟨hp'7, _, E.loopStepC (St.mk [TV.v (AV.ptr rb 0), J, J, J, J, J, TV.v x, TV.v (AI (↑vs.length : Int)), TV.v (AI ((↑i : Int) + 1)), J, J, J, J, J, J, J, J, J, J, J, J, J, J, J, J, J, J, J, J, J, J, J, J, J, J, J, J] (setAt hp'3 rb (BC [AV.arr 1 mb 0 n, x'2, AV.ptr pb 0, AV.str s]))) [.b 1 0 (decide_eq_true ((show (↑i : Int) < (↑vs.length : Int) from (by omega)))), .a 2 0 (E.indexAddr_sl (C := cfg m) (t := 109) (n := (↑i : Int)) hx (by kernel_rfl) (by omega) hv), .m 3 3 (E.load_ok (C := cfg m) (t := 103) (off := 0) (x := AV.arr 1 mb 0 n) hb (by kernel_rfl)), .a 3 5 (E.indexAddr_arr' (C := cfg m) (t := 103) (sz := 1) (b := mb) (off := 0) (len := n) (o := k) (n := (↑k : Int)) (by kernel_rfl) (by omega) (by omega) (by simp only [Int.toNat_natCast, Nat.zero_add, Nat.mul_one])), .mb 3 6 (E.load_bools (C := cfg m) (t := 4) (off := k) (by kernel_rfl) hm (by omega)) h1, .m 4 3 (E.load_ok (C := cfg m) (t := 103) (off := 0) (x := AV.arr 1 mb 0 n) hb (by kernel_rfl)), .a 4 5 (E.indexAddr_arr' (C := cfg m) (t := 103) (sz := 1) (b := mb) (off := 0) (len := n) (o := k) (n := (↑k : Int)) (by kernel_rfl) (by omega) (by omega) (by simp only [Int.toNat_natCast, Nat.zero_add, Nat.mul_one])), .t 4 6 (E.store_bools (C := cfg m) (t := 4) (off := k) (hp' := setAt hp mb (BC (List.map AV.bool (ms.set k true)))) (v := true) (by kernel_rfl) hm (by omega) hf2 rfl), .m 5 4 (E.load_ok (C := cfg m) (t := 109) (b := rb) (off := 1) (hp := setAt hp mb (BC (List.map AV.bool (ms.set k true)))) (cs := [AV.arr 1 mb 0 n, sl, AV.ptr pb 0, AV.str s]) (x := sl) (E.blk_set_ne (by omega) hb) (by kernel_rfl)), .m 5 7 e4, .t 5 10 (E.store_sl (C := cfg m) (t := 109) (off := 1) (sz := 1) (hp := hp'3) (hp' := setAt hp'3 rb (BC [AV.arr 1 mb 0 n, x'2, AV.ptr pb 0, AV.str s])) (cs := [AV.arr 1 mb 0 n, sl, AV.ptr pb 0, AV.str s]) (x := x'2) (vs := List.map natAV (l ++ [k])) (E.Gr.isSl h5) (by kernel_rfl) (E.frC_blk (b := rb) (cs := [AV.arr 1 mb 0 n, sl, AV.ptr pb 0, AV.str s]) h6 (E.blk_set_ne (by omega) hb) (by simp_all; done)) (by kernel_rfl) hf rfl), .w 6 0 IntKind.i64 ((↑i : Int) + 1) (E.wrap_i64' (by omega))] (by kernel_rfl) e9 rfl, by assumption, by simp only [putF, h1, Bool.false_eq_true, ↓reduceIte]; assumption, by simp only [putF, h1, Bool.false_eq_true, ↓reduceIte]; assumption, by first | assumption | exact FrC.put3 ‹FrC [] _ _› ‹FrC [rb, mb] _ _› (by simp) (by simp)⟩

theorem put_x {m : Int} {fl rb : Nat} {hp : List Blk} {x : AV} {n i : Nat} (hi : n ≤ i) : LoopI (cfg m) fl fPut (bodyAt (cfg m) fPut 1) 1 ⟨putSt rb x n i, hp⟩ (.exit 0) ⟨putEnd, hp⟩ := by
  exact E.loopEndC (.exit 0) (St.mk [J, J, J, J, J, J, J, J, J, J, J, J, J, J, J, J, J, J, J, J, J, J, J, J, J, J, J, J, J, J, J, J, J, J, J, J, J] hp) [.b 1 0 (decide_eq_false ((show ¬(↑i : Int) < (↑n : Int) from (by omega))))] (by kernel_rfl) (fun h => by cases h) rfl

theorem put_loop {m : Int} {fl rb mb pb n : Nat} {x : AV} {s : List UInt8} {vs : List AV} (hx : IsSl 1 x vs) (hf : fl ≤ rb) (hf2 : fl ≤ mb) (hne : rb ≠ mb) (hl : n < 1000000) (hvl : vs.length < 1000000) : ∀ (ks : List Nat) (i : Nat) {hp : List Blk} {sl : AV} {ms : List Bool} {l : List Nat}, vs.drop i = ks.map natAV → (∀ k ∈ ks, k < n) → blkCells hp rb = some [.arr 1 mb 0 n, sl, .ptr pb 0, .str s] → blkCells hp mb = some (ms.map .bool) → Gr fl 1 hp sl (l.map natAV) → ms.length = n → l.length + ms.count false = n →
    ∃ hp' sl', LoopI (cfg m) fl fPut (bodyAt (cfg m) fPut 1) 1 ⟨putSt rb x vs.length i, hp⟩ (.exit 0) ⟨putEnd, hp'⟩ ∧ blkCells hp' rb = some [.arr 1 mb 0 n, sl', .ptr pb 0, .str s] ∧ blkCells hp' mb = some ((putF ms l ks).1.map .bool) ∧ Gr fl 1 hp' sl' ((putF ms l ks).2.map natAV) ∧ FrC [rb, mb] hp hp'
  | [], i, hp, sl, ms, l, hd, _, hb, hm, hg, hn, hc => by
    have : vs.length ≤ i := by simpa using hd
    exact ⟨hp, sl, put_x this, hb, hm, hg, .refl _ _⟩
  | k :: ks, i, hp, sl, ms, l, hd, hk, hb, hm, hg, hn, hc => by
    have h1 : vs[i]? = some (natAV k) := by
      have := congrArg (·[0]?) hd
      simpa using this
    have hi : i < vs.length := (List.getElem?_eq_some_iff.1 h1).1
    have hd' : vs.drop (i + 1) = ks.map natAV := by
      rw [← List.drop_drop, hd]; rfl
    exact put_l hb hm hn hc hg hx h1 hi (hk k (by simp)) hf hf2 hne hl hvl fun hb1 hm1 hg1 hn1 hc1 => put_loop hx hf hf2 hne hl hvl ks (i + 1) hd' (fun q hq => hk q (by simp [hq])) hb1 hm1 hg1 hn1 hc1

theorem put_lp {m : Int} {fl rb mb pb n nv : Nat} {x : AV} {s : List UInt8} {ks : List Nat} {hp : List Blk} {sl : AV} {ms : List Bool} {l : List Nat} (hb : blkCells hp rb = some [.arr 1 mb 0 n, sl, .ptr pb 0, .str s]) (hm : blkCells hp mb = some (ms.map .bool)) (hg : Gr fl 1 hp sl (l.map natAV)) (hx : IsSl 1 x (ks.map natAV)) (hnv : nv = (ks.map natAV).length) (hf : fl ≤ rb) (hf2 : fl ≤ mb) (hne : rb ≠ mb) (hl : n < 1000000) (hvl : ks.length < 1000000) (hk : ∀ k ∈ ks, k < n) (hn : ms.length = n) (hc : l.length + ms.count false = n) :
    ∃ hp' sl', LoopI (cfg m) fl fPut (bodyAt (cfg m) fPut 1) 1 ⟨putSt rb x nv 0, hp⟩ (.exit 0) ⟨putEnd, hp'⟩ ∧ blkCells hp' rb = some [.arr 1 mb 0 n, sl', .ptr pb 0, .str s] ∧ blkCells hp' mb = some ((putF ms l ks).1.map .bool) ∧ Gr fl 1 hp' sl' ((putF ms l ks).2.map natAV) ∧ FrC [rb, mb] hp hp' :=
  hnv ▸ put_loop hx hf hf2 hne hl (by simpa using hvl) ks 0 rfl hk hb hm hg hn hc

theorem put_ok {m : Int} {fl rb mb pb n : Nat} {x : AV} {s : List UInt8} {ks : List Nat} {hp : List Blk} {sl : AV} {ms : List Bool} {l : List Nat} (hb : blkCells hp rb = some [.arr 1 mb 0 n, sl, .ptr pb 0, .str s]) (hm : blkCells hp mb = some (ms.map .bool)) (hg : Gr fl 1 hp sl (l.map natAV)) (hx : IsSl 1 x (ks.map natAV)) (hf : fl ≤ rb) (hf2 : fl ≤ mb) (hne : rb ≠ mb) (hl : n < 1000000) (hvl : ks.length < 1000000) (hk : ∀ k ∈ ks, k < n) (hn : ms.length = n) (hc : l.length + ms.count false = n) : ∃ hp' sl', evI (cfg m) fl fPut [.ptr rb 0, x] hp = some (.tup [], hp') ∧ blkCells hp' rb = some [.arr 1 mb 0 n, sl', .ptr pb 0, .str s] ∧ blkCells hp' mb = some ((putF ms l ks).1.map .bool) ∧ Gr fl 1 hp' sl' ((putF ms l ks).2.map natAV) ∧ FrC [rb, mb] hp hp' := by
  obtain ⟨hp'1, sl'2, e3, h4, h5, h6, h7⟩ := (E.S11.put_lp (m := m) (nv := (List.map natAV ks).length) hb hm hg hx rfl hf hf2 hne hl hvl hk hn hc)
  exact ⟨hp'1, _, E.evX (AV.tup []) (hp'1) [.m 0 1 (E.len_sl (C := cfg m) (t := 109) (ts' := []) (fl := fl) (ar := false) (hp := hp) hx (by kernel_rfl)), .l 1 e3] (by kernel_rfl) (E.tlK (by kernel_rfl) rfl) rfl, by assumption, by assumption, by assumption, by assumption⟩
end Go.Proofs.YtkocimfdgdegfaaGreatDoor.E.S11
