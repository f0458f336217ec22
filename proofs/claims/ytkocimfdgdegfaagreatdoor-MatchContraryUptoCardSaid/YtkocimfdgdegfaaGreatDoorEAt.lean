/- Steps of the seat's proofs. -/
import Derived.Test.YtkocimfdgdegfaaGreatDoorEPut
set_option linter.unusedSimpArgs false
set_option linter.unusedVariables false
namespace Go.Proofs.YtkocimfdgdegfaaGreatDoor.E.S11
open Go Go.Proofs E E.R
abbrev tState : Nat := 133

/-- a state: what it does, the bytes it takes, where it goes on -/
structure NS where
  kind : Int
  set : W4
  next : List Nat
abbrev nsAV (x : NS) (nx : AV) : List AV := [AI x.kind, wAV x.set.a, wAV x.set.b, wAV x.set.c, wAV x.set.d, nx]
/-- states that lie in a block -/
def StOK (hp : List Blk) (sb : Nat) (st : List NS) : Prop := ∃ cs, blkCells hp sb = some cs ∧ ∀ (i : Nat) (x : NS), st[i]? = some x → ∃ nx, (cs.drop (i * 6)).take 6 = nsAV x nx ∧ IsSl 1 nx (x.next.map natAV)
theorem tyState {m : Int} : (cfg m).ty tState = some ⟨.struct [(0, 3), (1, 94), (5, 109)], 6, 64, [.int .i64 0, .int .u64 0, .int .u64 0, .int .u64 0, .int .u64 0, .nilS], false⟩ := by kernel_rfl
theorem load_state {m : Int} {hp : List Blk} {sb k : Nat} {st : List NS} {x : NS} (h : StOK hp sb st) (hk : st[k]? = some x) :
    ∃ nx, (∀ ts, loadAt (cfg m) ⟨ts, hp⟩ tState (.v (.ptr sb (k * 6))) = some ⟨.v (.agg (nsAV x nx)), ts, hp, .hb sb⟩) ∧ IsSl 1 nx (x.next.map natAV) := by
  obtain ⟨cs, h1, h2⟩ := h
  obtain ⟨nx, h3, h4⟩ := h2 k x hk
  refine ⟨nx, fun ts => ?_, h4⟩
  unfold loadAt
  simp only [tyState, h1, part, TK.agg, cond_true rfl, h3]
  rfl
theorem StOK.fr {S : List Nat} {hp hp' : List Blk} {sb : Nat} {st : List NS} (h : FrC S hp hp') (hs : StOK hp sb st) (hn : sb ∉ S) : StOK hp' sb st := by
  obtain ⟨cs, h1, h2⟩ := hs
  exact ⟨cs, h.2 sb cs hn h1, h2⟩

abbrev atSt (rb : Nat) (pl : Int) (f : Bool) (k : Nat) : List TV := [.v (.ptr rb 0), .v (AI pl), J, J, .v (.bool f), .v (AI k)] ++ List.replicate 63 J
abbrev atEnd (f : Bool) : List TV := [J, J, J, J, .v (.bool f)] ++ List.replicate 64 J

/-- one state of a place -/
def atStep (x : NS) (pl len : Int) (ms : List Bool) (l : List Nat) (f : Bool) : List Bool × List Nat × Bool :=
  if x.kind = 0 then (ms, l, true) else if x.kind = 4 ∨ (x.kind = 2 ∧ pl = 0) ∨ (x.kind = 3 ∧ pl = len) then ((putF ms l x.next).1, (putF ms l x.next).2, f) else (ms, l, f)

theorem at_l {m : Int} {fl rb mb pb sb n k q : Nat} {hp : List Blk} {sl : AV} {s : List UInt8} {pl : Int} {ms : List Bool} {l : List Nat} {rest : List AV} {st : List NS} {x : NS} {f : Bool} (hb : blkCells hp rb = some [.arr 1 mb 0 n, sl, .ptr pb 0, .str s]) (hm : blkCells hp mb = some (ms.map .bool)) (hg : Gr fl 1 hp sl (l.map natAV)) (hpb : blkCells hp pb = some (.arr 6 sb 0 n :: rest)) (hst : StOK hp sb st) (hx : st[q]? = some x) (hq : q < n) (hv : (l.map natAV)[k]? = some (natAV q)) (hi : k < (l.map natAV).length) (hf : fl ≤ rb) (hf2 : fl ≤ mb) (hne : rb ≠ mb) (hl : n < 1000000) (hvl : x.next.length < 1000000) (hk : ∀ k ∈ x.next, k < n) (hn : ms.length = n) (hc : l.length + ms.count false = n) (hkk : k < 1000000) : ∃ hp' sl', LoopS (cfg m) fl fAt (bodyAt (cfg m) fAt 2) 2 ⟨atSt rb pl f k, hp⟩ ⟨atSt rb pl (atStep x pl s.length ms l f).2.2 (k + 1), hp'⟩ ∧ blkCells hp' rb = some [.arr 1 mb 0 n, sl', .ptr pb 0, .str s] ∧ blkCells hp' mb = some ((atStep x pl s.length ms l f).1.map .bool) ∧ Gr fl 1 hp' sl' ((atStep x pl s.length ms l f).2.1.map natAV) ∧ FrC [rb, mb] hp hp' := by
  obtain ⟨nx1, e2, h3⟩ := (E.S11.load_state (m := m) hst hx)
  by_cases h4 : x.kind = 0
  · exact ⟨hp, _, E.loopStepS (St.mk [TV.v (AV.ptr rb 0), TV.v (AI pl), J, J, TV.v (AV.bool true), TV.v (AI ((↑k : Int) + 1)), J, J, J, J, J, J, J, J, J, J, J, J, J, J, J, J, J, J, J, J, J, J, J, J, J, J, J, J, J, J, J, J, J, J, J, J, J, J, J, J, J, J, J, J, J, J, J, J, J, J, J, J, J, J, J, J, J, J, J, J, J, J, J] hp) [.m 2 5 (E.load_ok (C := cfg m) (t := 109) (off := 1) (x := sl) hb (by kernel_rfl)), .m 2 6 (E.len_sl (C := cfg m) (t := 109) (ts' := []) (fl := fl) (ar := false) (sz := 1) (x := sl) (vs := List.map natAV l) (hp := hp) (E.Gr.isSl hg) (by kernel_rfl)), .b 2 7 (decide_eq_true ((show (↑k : Int) < (↑(List.map natAV l).length : Int) from (by omega)))), .m 4 3 (E.load_ok (C := cfg m) (t := 66) (off := 2) (x := AV.ptr pb 0) hb (by kernel_rfl)), .m 4 7 (E.load_ok (C := cfg m) (t := 104) (off := 0) (x := AV.arr 6 sb 0 n) hpb (by kernel_rfl)), .m 4 12 (E.load_ok (C := cfg m) (t := 109) (off := 1) (x := sl) hb (by kernel_rfl)), .a 4 14 (E.indexAddr_sl (C := cfg m) (t := 109) (sz := 1) (x := sl) (n := (↑k : Int)) (E.Gr.isSl hg) (by kernel_rfl) (by omega) hv), .a 4 16 (E.indexAddr_arr' (C := cfg m) (t := 104) (sz := 6) (b := sb) (off := 0) (len := n) (o := q * 6) (n := (↑q : Int)) (by kernel_rfl) (by omega) (by omega) (by simp only [Int.toNat_natCast, Nat.zero_add, Nat.mul_one])), .m 4 17 e2, .b 5 2 (beq_iff_eq.2 h4), .w 3 1 IntKind.i64 ((↑k : Int) + 1) (E.wrap_i64' (by omega))] (by kernel_rfl) (by simp [atStep, *]), by assumption, by simp [atStep, *], by simp [atStep, *], by first | assumption | exact .refl _ _⟩
  · by_cases h5 : x.kind = 4
    · obtain ⟨hp'6, sl'7, e8, h9, h10, h11, h12⟩ := (E.S11.put_ok (m := m) hb hm hg h3 hf hf2 hne hl hvl hk hn hc)
      exact ⟨hp'6, _, E.loopStepS (St.mk [TV.v (AV.ptr rb 0), TV.v (AI pl), J, J, TV.v (AV.bool f), TV.v (AI ((↑k : Int) + 1)), J, J, J, J, J, J, J, J, J, J, J, J, J, J, J, J, J, J, J, J, J, J, J, J, J, J, J, J, J, J, J, J, J, J, J, J, J, J, J, J, J, J, J, J, J, J, J, J, J, J, J, J, J, J, J, J, J, J, J, J, J, J, J] hp'6) [.m 2 5 (E.load_ok (C := cfg m) (t := 109) (off := 1) (x := sl) hb (by kernel_rfl)), .m 2 6 (E.len_sl (C := cfg m) (t := 109) (ts' := []) (fl := fl) (ar := false) (sz := 1) (x := sl) (vs := List.map natAV l) (hp := hp) (E.Gr.isSl hg) (by kernel_rfl)), .b 2 7 (decide_eq_true ((show (↑k : Int) < (↑(List.map natAV l).length : Int) from (by omega)))), .m 4 3 (E.load_ok (C := cfg m) (t := 66) (off := 2) (x := AV.ptr pb 0) hb (by kernel_rfl)), .m 4 7 (E.load_ok (C := cfg m) (t := 104) (off := 0) (x := AV.arr 6 sb 0 n) hpb (by kernel_rfl)), .m 4 12 (E.load_ok (C := cfg m) (t := 109) (off := 1) (x := sl) hb (by kernel_rfl)), .a 4 14 (E.indexAddr_sl (C := cfg m) (t := 109) (sz := 1) (x := sl) (n := (↑k : Int)) (E.Gr.isSl hg) (by kernel_rfl) (by omega) hv), .a 4 16 (E.indexAddr_arr' (C := cfg m) (t := 104) (sz := 6) (b := sb) (off := 0) (len := n) (o := q * 6) (n := (↑q : Int)) (by kernel_rfl) (by omega) (by omega) (by simp only [Int.toNat_natCast, Nat.zero_add, Nat.mul_one])), .m 4 17 e2, .b 5 2 (beq_false_of_ne h4), .b 7 2 (beq_iff_eq.2 h5), .c 10 5 e8, .w 3 1 IntKind.i64 ((↑k : Int) + 1) (E.wrap_i64' (by omega))] (by kernel_rfl) (by simp [atStep, *]), by assumption, by simp [atStep, *], by simp [atStep, *], by first | assumption | exact .refl _ _⟩
    · by_cases h6 : x.kind = 2
      · by_cases h7 : pl = 0
        · obtain ⟨hp'8, sl'9, e10, h11, h12, h13, h14⟩ := (E.S11.put_ok (m := m) hb hm hg h3 hf hf2 hne hl hvl hk hn hc)
          exact ⟨hp'8, _, E.loopStepS (St.mk [TV.v (AV.ptr rb 0), TV.v (AI pl), J, J, TV.v (AV.bool f), TV.v (AI ((↑k : Int) + 1)), J, J, J, J, J, J, J, J, J, J, J, J, J, J, J, J, J, J, J, J, J, J, J, J, J, J, J, J, J, J, J, J, J, J, J, J, J, J, J, J, J, J, J, J, J, J, J, J, J, J, J, J, J, J, J, J, J, J, J, J, J, J, J] hp'8) [.m 2 5 (E.load_ok (C := cfg m) (t := 109) (off := 1) (x := sl) hb (by kernel_rfl)), .m 2 6 (E.len_sl (C := cfg m) (t := 109) (ts' := []) (fl := fl) (ar := false) (sz := 1) (x := sl) (vs := List.map natAV l) (hp := hp) (E.Gr.isSl hg) (by kernel_rfl)), .b 2 7 (decide_eq_true ((show (↑k : Int) < (↑(List.map natAV l).length : Int) from (by omega)))), .m 4 3 (E.load_ok (C := cfg m) (t := 66) (off := 2) (x := AV.ptr pb 0) hb (by kernel_rfl)), .m 4 7 (E.load_ok (C := cfg m) (t := 104) (off := 0) (x := AV.arr 6 sb 0 n) hpb (by kernel_rfl)), .m 4 12 (E.load_ok (C := cfg m) (t := 109) (off := 1) (x := sl) hb (by kernel_rfl)), .a 4 14 (E.indexAddr_sl (C := cfg m) (t := 109) (sz := 1) (x := sl) (n := (↑k : Int)) (E.Gr.isSl hg) (by kernel_rfl) (by omega) hv), .a 4 16 (E.indexAddr_arr' (C := cfg m) (t := 104) (sz := 6) (b := sb) (off := 0) (len := n) (o := q * 6) (n := (↑q : Int)) (by kernel_rfl) (by omega) (by omega) (by simp only [Int.toNat_natCast, Nat.zero_add, Nat.mul_one])), .m 4 17 e2, .b 5 2 (beq_false_of_ne h4), .b 7 2 (beq_false_of_ne h5), .b 8 2 (beq_iff_eq.2 h6), .b 8 5 (beq_iff_eq.2 h7), .c 10 5 e10, .w 3 1 IntKind.i64 ((↑k : Int) + 1) (E.wrap_i64' (by omega))] (by kernel_rfl) (by simp [atStep, *]), by assumption, by simp [atStep, *], by simp [atStep, *], by first | assumption | exact .refl _ _⟩
        · exact ⟨hp, _, E.loopStepS (St.mk [TV.v (AV.ptr rb 0), TV.v (AI pl), J, J, TV.v (AV.bool f), TV.v (AI ((↑k : Int) + 1)), J, J, J, J, J, J, J, J, J, J, J, J, J, J, J, J, J, J, J, J, J, J, J, J, J, J, J, J, J, J, J, J, J, J, J, J, J, J, J, J, J, J, J, J, J, J, J, J, J, J, J, J, J, J, J, J, J, J, J, J, J, J, J] hp) [.m 2 5 (E.load_ok (C := cfg m) (t := 109) (off := 1) (x := sl) hb (by kernel_rfl)), .m 2 6 (E.len_sl (C := cfg m) (t := 109) (ts' := []) (fl := fl) (ar := false) (sz := 1) (x := sl) (vs := List.map natAV l) (hp := hp) (E.Gr.isSl hg) (by kernel_rfl)), .b 2 7 (decide_eq_true ((show (↑k : Int) < (↑(List.map natAV l).length : Int) from (by omega)))), .m 4 3 (E.load_ok (C := cfg m) (t := 66) (off := 2) (x := AV.ptr pb 0) hb (by kernel_rfl)), .m 4 7 (E.load_ok (C := cfg m) (t := 104) (off := 0) (x := AV.arr 6 sb 0 n) hpb (by kernel_rfl)), .m 4 12 (E.load_ok (C := cfg m) (t := 109) (off := 1) (x := sl) hb (by kernel_rfl)), .a 4 14 (E.indexAddr_sl (C := cfg m) (t := 109) (sz := 1) (x := sl) (n := (↑k : Int)) (E.Gr.isSl hg) (by kernel_rfl) (by omega) hv), .a 4 16 (E.indexAddr_arr' (C := cfg m) (t := 104) (sz := 6) (b := sb) (off := 0) (len := n) (o := q * 6) (n := (↑q : Int)) (by kernel_rfl) (by omega) (by omega) (by simp only [Int.toNat_natCast, Nat.zero_add, Nat.mul_one])), .m 4 17 e2, .b 5 2 (beq_false_of_ne h4), .b 7 2 (beq_false_of_ne h5), .b 8 2 (beq_iff_eq.2 h6), .b 8 5 (beq_false_of_ne h7), .b 9 2 (beq_false_of_ne ((show ¬x.kind = 3 from (by omega)))), .w 3 1 IntKind.i64 ((↑k : Int) + 1) (E.wrap_i64' (by omega))] (by kernel_rfl) (by simp [atStep, *]), by assumption, by simp [atStep, *], by simp [atStep, *], by first | assumption | exact .refl _ _⟩
      · by_cases h7 : x.kind = 3
        · by_cases h8 : pl = (↑s.length : Int)
          · obtain ⟨hp'9, sl'10, e11, h12, h13, h14, h15⟩ := (E.S11.put_ok (m := m) hb hm hg h3 hf hf2 hne hl hvl hk hn hc)
            exact ⟨hp'9, _, E.loopStepS (St.mk [TV.v (AV.ptr rb 0), TV.v (AI pl), J, J, TV.v (AV.bool f), TV.v (AI ((↑k : Int) + 1)), J, J, J, J, J, J, J, J, J, J, J, J, J, J, J, J, J, J, J, J, J, J, J, J, J, J, J, J, J, J, J, J, J, J, J, J, J, J, J, J, J, J, J, J, J, J, J, J, J, J, J, J, J, J, J, J, J, J, J, J, J, J, J] hp'9) [.m 2 5 (E.load_ok (C := cfg m) (t := 109) (off := 1) (x := sl) hb (by kernel_rfl)), .m 2 6 (E.len_sl (C := cfg m) (t := 109) (ts' := []) (fl := fl) (ar := false) (sz := 1) (x := sl) (vs := List.map natAV l) (hp := hp) (E.Gr.isSl hg) (by kernel_rfl)), .b 2 7 (decide_eq_true ((show (↑k : Int) < (↑(List.map natAV l).length : Int) from (by omega)))), .m 4 3 (E.load_ok (C := cfg m) (t := 66) (off := 2) (x := AV.ptr pb 0) hb (by kernel_rfl)), .m 4 7 (E.load_ok (C := cfg m) (t := 104) (off := 0) (x := AV.arr 6 sb 0 n) hpb (by kernel_rfl)), .m 4 12 (E.load_ok (C := cfg m) (t := 109) (off := 1) (x := sl) hb (by kernel_rfl)), .a 4 14 (E.indexAddr_sl (C := cfg m) (t := 109) (sz := 1) (x := sl) (n := (↑k : Int)) (E.Gr.isSl hg) (by kernel_rfl) (by omega) hv), .a 4 16 (E.indexAddr_arr' (C := cfg m) (t := 104) (sz := 6) (b := sb) (off := 0) (len := n) (o := q * 6) (n := (↑q : Int)) (by kernel_rfl) (by omega) (by omega) (by simp only [Int.toNat_natCast, Nat.zero_add, Nat.mul_one])), .m 4 17 e2, .b 5 2 (beq_false_of_ne h4), .b 7 2 (beq_false_of_ne h5), .b 8 2 (beq_false_of_ne h6), .b 9 2 (beq_iff_eq.2 h7), .m 9 8 (E.load_ok (C := cfg m) (t := 9) (off := 3) (x := AV.str s) hb (by kernel_rfl)), .b 9 10 (beq_iff_eq.2 h8), .c 10 5 e11, .w 3 1 IntKind.i64 ((↑k : Int) + 1) (E.wrap_i64' (by omega))] (by kernel_rfl) (by simp [atStep, *]), by assumption, by simp [atStep, *], by simp [atStep, *], by first | assumption | exact .refl _ _⟩
          · exact ⟨hp, _, E.loopStepS (St.mk [TV.v (AV.ptr rb 0), TV.v (AI pl), J, J, TV.v (AV.bool f), TV.v (AI ((↑k : Int) + 1)), J, J, J, J, J, J, J, J, J, J, J, J, J, J, J, J, J, J, J, J, J, J, J, J, J, J, J, J, J, J, J, J, J, J, J, J, J, J, J, J, J, J, J, J, J, J, J, J, J, J, J, J, J, J, J, J, J, J, J, J, J, J, J] hp) [.m 2 5 (E.load_ok (C := cfg m) (t := 109) (off := 1) (x := sl) hb (by kernel_rfl)), .m 2 6 (E.len_sl (C := cfg m) (t := 109) (ts' := []) (fl := fl) (ar := false) (sz := 1) (x := sl) (vs := List.map natAV l) (hp := hp) (E.Gr.isSl hg) (by kernel_rfl)), .b 2 7 (decide_eq_true ((show (↑k : Int) < (↑(List.map natAV l).length : Int) from (by omega)))), .m 4 3 (E.load_ok (C := cfg m) (t := 66) (off := 2) (x := AV.ptr pb 0) hb (by kernel_rfl)), .m 4 7 (E.load_ok (C := cfg m) (t := 104) (off := 0) (x := AV.arr 6 sb 0 n) hpb (by kernel_rfl)), .m 4 12 (E.load_ok (C := cfg m) (t := 109) (off := 1) (x := sl) hb (by kernel_rfl)), .a 4 14 (E.indexAddr_sl (C := cfg m) (t := 109) (sz := 1) (x := sl) (n := (↑k : Int)) (E.Gr.isSl hg) (by kernel_rfl) (by omega) hv), .a 4 16 (E.indexAddr_arr' (C := cfg m) (t := 104) (sz := 6) (b := sb) (off := 0) (len := n) (o := q * 6) (n := (↑q : Int)) (by kernel_rfl) (by omega) (by omega) (by simp only [Int.toNat_natCast, Nat.zero_add, Nat.mul_one])), .m 4 17 e2, .b 5 2 (beq_false_of_ne h4), .b 7 2 (beq_false_of_ne h5), .b 8 2 (beq_false_of_ne h6), .b 9 2 (beq_iff_eq.2 h7), .m 9 8 (E.load_ok (C := cfg m) (t := 9) (off := 3) (x := AV.str s) hb (by kernel_rfl)), .b 9 10 (beq_false_of_ne h8), .w 3 1 IntKind.i64 ((↑k : Int) + 1) (E.wrap_i64' (by omega))] (by kernel_rfl) (by simp [atStep, *]), by assumption, by simp [atStep, *], by simp [atStep, *], by first | assumption | exact .refl _ _⟩
        · exact ⟨hp, _, E.loopStepS (St.mk [TV.v (AV.ptr rb 0), TV.v (AI pl), J, J, TV.v (AV.bool f), TV.v (AI ((↑k : Int) + 1)), J, J, J, J, J, J, J, J, J, J, J, J, J, J, J, J, J, J, J, J, J, J, J, J, J, J, J, J, J, J, J, J, J, J, J, J, J, J, J, J, J, J, J, J, J, J, J, J, J, J, J, J, J, J, J, J, J, J, J, J, J, J, J] hp) [.m 2 5 (E.load_ok (C := cfg m) (t := 109) (off := 1) (x := sl) hb (by kernel_rfl)), .m 2 6 (E.len_sl (C := cfg m) (t := 109) (ts' := []) (fl := fl) (ar := false) (sz := 1) (x := sl) (vs := List.map natAV l) (hp := hp) (E.Gr.isSl hg) (by kernel_rfl)), .b 2 7 (decide_eq_true ((show (↑k : Int) < (↑(List.map natAV l).length : Int) from (by omega)))), .m 4 3 (E.load_ok (C := cfg m) (t := 66) (off := 2) (x := AV.ptr pb 0) hb (by kernel_rfl)), .m 4 7 (E.load_ok (C := cfg m) (t := 104) (off := 0) (x := AV.arr 6 sb 0 n) hpb (by kernel_rfl)), .m 4 12 (E.load_ok (C := cfg m) (t := 109) (off := 1) (x := sl) hb (by kernel_rfl)), .a 4 14 (E.indexAddr_sl (C := cfg m) (t := 109) (sz := 1) (x := sl) (n := (↑k : Int)) (E.Gr.isSl hg) (by kernel_rfl) (by omega) hv), .a 4 16 (E.indexAddr_arr' (C := cfg m) (t := 104) (sz := 6) (b := sb) (off := 0) (len := n) (o := q * 6) (n := (↑q : Int)) (by kernel_rfl) (by omega) (by omega) (by simp only [Int.toNat_natCast, Nat.zero_add, Nat.mul_one])), .m 4 17 e2, .b 5 2 (beq_false_of_ne h4), .b 7 2 (beq_false_of_ne h5), .b 8 2 (beq_false_of_ne h6), .b 9 2 (beq_false_of_ne h7), .w 3 1 IntKind.i64 ((↑k : Int) + 1) (E.wrap_i64' (by omega))] (by kernel_rfl) (by simp [atStep, *]), by assumption, by simp [atStep, *], by simp [atStep, *], by first | assumption | exact .refl _ _⟩

theorem at_x {m : Int} {fl rb mb pb n k : Nat} {hp : List Blk} {sl : AV} {s : List UInt8} {pl : Int} {l : List Nat} {f : Bool} (hb : blkCells hp rb = some [.arr 1 mb 0 n, sl, .ptr pb 0, .str s]) (hg : Gr fl 1 hp sl (l.map natAV)) (hi : (l.map natAV).length ≤ k) : LoopI (cfg m) fl fAt (bodyAt (cfg m) fAt 2) 2 ⟨atSt rb pl f k, hp⟩ (.exit 0) ⟨atEnd f, hp⟩ := by
  exact E.loopEndC (.exit 0) (St.mk [J, J, J, J, TV.v (AV.bool f), J, J, J, J, J, J, J, J, J, J, J, J, J, J, J, J, J, J, J, J, J, J, J, J, J, J, J, J, J, J, J, J, J, J, J, J, J, J, J, J, J, J, J, J, J, J, J, J, J, J, J, J, J, J, J, J, J, J, J, J, J, J, J, J] hp) [.m 2 5 (E.load_ok (C := cfg m) (t := 109) (off := 1) (x := sl) hb (by kernel_rfl)), .m 2 6 (E.len_sl (C := cfg m) (t := 109) (ts' := []) (fl := fl) (ar := false) (sz := 1) (x := sl) (vs := List.map natAV l) (hp := hp) (E.Gr.isSl hg) (by kernel_rfl)), .b 2 7 (decide_eq_false ((show ¬(↑k : Int) < (↑(List.map natAV l).length : Int) from (by omega))))] (by kernel_rfl) (fun h => by cases h) rfl

theorem putF_mem {n : Nat} : ∀ (ks : List Nat) (ms : List Bool) (l : List Nat), (∀ q ∈ l, q < n) → (∀ k ∈ ks, k < n) → ∀ q ∈ (putF ms l ks).2, q < n
  | [], _, _, h, _ => h
  | k :: ks, ms, l, h, hk => by
    unfold putF; split
    · exact putF_mem ks ms l h fun q hq => hk q (by simp [hq])
    · refine putF_mem ks _ _ (fun q hq => ?_) fun q hq => hk q (by simp [hq])
      simp at hq
      rcases hq with hq | rfl
      · exact h q hq
      · exact hk q (by simp)
theorem atStep_len (x : NS) (pl len : Int) (ms : List Bool) (l : List Nat) (f : Bool) : (atStep x pl len ms l f).1.length = ms.length := by
  unfold atStep
  repeat' split
  · rfl
  · exact putF_len _ _ _
  · rfl
theorem atStep_count (x : NS) (pl len : Int) (ms : List Bool) (l : List Nat) (f : Bool) : (atStep x pl len ms l f).2.1.length + (atStep x pl len ms l f).1.count false = l.length + ms.count false := by
  unfold atStep
  repeat' split
  · rfl
  · exact putF_count _ _ _
  · rfl
theorem atStep_mem {n : Nat} (x : NS) (pl len : Int) (ms : List Bool) (l : List Nat) (f : Bool) (h : ∀ q ∈ l, q < n) (hx : ∀ k ∈ x.next, k < n) : ∀ q ∈ (atStep x pl len ms l f).2.1, q < n := by
  unfold atStep
  repeat' split
  · exact h
  · exact putF_mem _ _ _ h hx
  · exact h

/-- a place's states, closed -/
def atF (st : List NS) (pl len : Int) : Nat → Nat → List Bool → List Nat → Bool → List Bool × List Nat × Bool
  | 0, _, ms, l, f => (ms, l, f)
  | fuel + 1, k, ms, l, f => match l[k]? with
    | none => (ms, l, f)
    | some q => match st[q]? with
      | none => (ms, l, f)
      | some x => atF st pl len fuel (k + 1) (atStep x pl len ms l f).1 (atStep x pl len ms l f).2.1 (atStep x pl len ms l f).2.2

/-- states that go on to states of their own -/
def WF (st : List NS) : Prop := st.length < 1000000 ∧ ∀ x ∈ st, x.next.length < 1000000 ∧ ∀ k ∈ x.next, k < st.length

theorem at_loop {m : Int} {fl rb mb pb sb : Nat} {s : List UInt8} {pl : Int} {rest : List AV} {st : List NS} (hw : WF st) (hf : fl ≤ rb) (hf2 : fl ≤ mb) (hne : rb ≠ mb) (hps : pb ≠ rb) (hpm : pb ≠ mb) (hsr : sb ≠ rb) (hsm : sb ≠ mb) :
    ∀ (fuel k : Nat) {hp : List Blk} {sl : AV} {ms : List Bool} {l : List Nat} {f : Bool}, st.length + 1 ≤ fuel + k → k ≤ st.length + 1 → blkCells hp rb = some [.arr 1 mb 0 st.length, sl, .ptr pb 0, .str s] → blkCells hp mb = some (ms.map .bool) → Gr fl 1 hp sl (l.map natAV) → blkCells hp pb = some (.arr 6 sb 0 st.length :: rest) → StOK hp sb st →
      ms.length = st.length → l.length + ms.count false = st.length → (∀ q ∈ l, q < st.length) →
      ∃ hp' sl', LoopI (cfg m) fl fAt (bodyAt (cfg m) fAt 2) 2 ⟨atSt rb pl f k, hp⟩ (.exit 0) ⟨atEnd (atF st pl s.length fuel k ms l f).2.2, hp'⟩ ∧ blkCells hp' rb = some [.arr 1 mb 0 st.length, sl', .ptr pb 0, .str s] ∧ blkCells hp' mb = some ((atF st pl s.length fuel k ms l f).1.map .bool) ∧ Gr fl 1 hp' sl' ((atF st pl s.length fuel k ms l f).2.1.map natAV) ∧ FrC [rb, mb] hp hp'
  | 0, k, hp, sl, ms, l, f, hk, _, hb, hm, hg, hpb, hst, hn, hc, hq => ⟨hp, sl, at_x hb hg (by simp; omega), hb, hm, hg, .refl _ _⟩
  | fuel + 1, k, hp, sl, ms, l, f, hk, hk2, hb, hm, hg, hpb, hst, hn, hc, hq => by
    unfold atF
    cases hlk : l[k]? with
    | none => exact ⟨hp, sl, at_x hb hg (by simp at hlk ⊢; omega), hb, hm, hg, .refl _ _⟩
    | some q =>
      obtain ⟨hkl, hke⟩ := List.getElem?_eq_some_iff.1 hlk
      have hqn : q < st.length := hq q (hke ▸ List.getElem_mem hkl)
      have hx : st[q]? = some st[q] := List.getElem?_eq_getElem hqn
      obtain ⟨w1, w2⟩ := hw.2 st[q] (List.getElem_mem hqn)
      have hw1 := hw.1
      simp only [hx]
      obtain ⟨hp1, sl1, s1, s2, s3, s4, s5⟩ := at_l (m := m) (pl := pl) (f := f) hb hm hg hpb hst hx hqn (k := k) (by simp [hlk]) (by simpa using hkl) hf hf2 hne hw.1 w1 w2 hn hc (by omega)
      have hpb1 : blkCells hp1 pb = some (.arr 6 sb 0 st.length :: rest) := s5.2 _ _ (by simp; exact ⟨hps, hpm⟩) hpb
      have hst1 : StOK hp1 sb st := hst.fr s5 (by simp; exact ⟨hsr, hsm⟩)
      obtain ⟨hp2, sl2, r1, r2, r3, r4, r5⟩ := at_loop (m := m) (pl := pl) hw hf hf2 hne hps hpm hsr hsm fuel (k + 1) (f := (atStep st[q] pl s.length ms l f).2.2) (by omega) (by omega) s2 s3 s4 hpb1 hst1 (by rw [atStep_len]; exact hn) (by rw [atStep_count]; exact hc) (atStep_mem _ _ _ _ _ _ hq w2)
      exact ⟨hp2, sl2, s1 _ _ r1, r2, r3, r4, s5.trans r5⟩

theorem at_lp {m : Int} {fl rb mb pb sb : Nat} {s : List UInt8} {pl : Int} {rest : List AV} {st : List NS} {hp : List Blk} {sl : AV} {ms : List Bool} {l : List Nat} (hb : blkCells hp rb = some [.arr 1 mb 0 st.length, sl, .ptr pb 0, .str s]) (hm : blkCells hp mb = some (ms.map .bool)) (hg : Gr fl 1 hp sl (l.map natAV)) (hpb : blkCells hp pb = some (.arr 6 sb 0 st.length :: rest)) (hst : StOK hp sb st) (hw : WF st) (hf : fl ≤ rb) (hf2 : fl ≤ mb) (hne : rb ≠ mb) (hps : pb ≠ rb) (hpm : pb ≠ mb) (hsr : sb ≠ rb) (hsm : sb ≠ mb)
      (hn : ms.length = st.length) (hc : l.length + ms.count false = st.length) (hq : ∀ q ∈ l, q < st.length) :
      ∃ hp' sl', LoopI (cfg m) fl fAt (bodyAt (cfg m) fAt 2) 2 ⟨atSt rb pl false 0, hp⟩ (.exit 0) ⟨atEnd (atF st pl s.length (st.length + 1) 0 ms l false).2.2, hp'⟩ ∧ blkCells hp' rb = some [.arr 1 mb 0 st.length, sl', .ptr pb 0, .str s] ∧ blkCells hp' mb = some ((atF st pl s.length (st.length + 1) 0 ms l false).1.map .bool) ∧ Gr fl 1 hp' sl' ((atF st pl s.length (st.length + 1) 0 ms l false).2.1.map natAV) ∧ FrC [rb, mb] hp hp' :=
  at_loop hw hf hf2 hne hps hpm hsr hsm (st.length + 1) 0 (by omega) (by omega) hb hm hg hpb hst hn hc hq

theorem at_ok {m : Int} {fl rb mb pb sb : Nat} {s : List UInt8} {pl : Int} {rest : List AV} {st : List NS} {hp : List Blk} {sl : AV} {ms : List Bool} {l : List Nat} (hb : blkCells hp rb = some [.arr 1 mb 0 st.length, sl, .ptr pb 0, .str s]) (hm : blkCells hp mb = some (ms.map .bool)) (hg : Gr fl 1 hp sl (l.map natAV)) (hpb : blkCells hp pb = some (.arr 6 sb 0 st.length :: rest)) (hst : StOK hp sb st) (hw : WF st) (hf : fl ≤ rb) (hf2 : fl ≤ mb) (hne : rb ≠ mb) (hps : pb ≠ rb) (hpm : pb ≠ mb) (hsr : sb ≠ rb) (hsm : sb ≠ mb) (hn : ms.length = st.length) (hc : l.length + ms.count false = st.length) (hq : ∀ q ∈ l, q < st.length) : ∃ hp' sl', evI (cfg m) fl fAt [.ptr rb 0, .int .i64 pl] hp = some (.bool (atF st pl s.length (st.length + 1) 0 ms l false).2.2, hp') ∧ blkCells hp' rb = some [.arr 1 mb 0 st.length, sl', .ptr pb 0, .str s] ∧ blkCells hp' mb = some ((atF st pl s.length (st.length + 1) 0 ms l false).1.map .bool) ∧ Gr fl 1 hp' sl' ((atF st pl s.length (st.length + 1) 0 ms l false).2.1.map natAV) ∧ FrC [rb, mb] hp hp' := by
  obtain ⟨hp'1, sl'2, e3, h4, h5, h6, h7⟩ := (E.S11.at_lp (m := m) (pl := pl) hb hm hg hpb hst hw hf hf2 hne hps hpm hsr hsm hn hc hq)
  rcases E.bcases ((atF st pl (↑s.length : Int) (st.length + 1) 0 ms l false).snd.snd) with h8 | h8
  · exact ⟨hp'1, _, E.evX (AV.bool true) (hp'1) [.l 2 e3, .b 11 0 h8] (by kernel_rfl) (E.tlK (by kernel_rfl) rfl) (by simp [*]), by assumption, by assumption, by assumption, by assumption⟩
  · exact ⟨hp'1, _, E.evX (AV.bool false) (hp'1) [.l 2 e3, .b 11 0 h8] (by kernel_rfl) (E.tlK (by kernel_rfl) rfl) (by simp [*]), by assumption, by assumption, by assumption, by assumption⟩
end Go.Proofs.YtkocimfdgdegfaaGreatDoor.E.S11
