/- Steps of the seat's proofs. -/
import Derived.Test.YtkocimfdgdegfaaGreatDoorEAt
set_option linter.unusedSimpArgs false
set_option linter.unusedVariables false
namespace Go.Proofs.YtkocimfdgdegfaaGreatDoor.E.S11
open Go Go.Proofs E E.R

abbrev stSt (rb : Nat) (c : UInt8) (x : AV) (n i : Nat) : List TV := [.v (.ptr rb 0), .v (AU c.toNat), J, J, J, J, J, J, J, J, J, J, J, J, J, J, J, J, J, J, J, J, J, J, J, J, J, .v x, .v (AI n), .v (AI i)] ++ List.replicate 30 J
abbrev stEnd : List TV := List.replicate 60 J
/-- one state of a place, by a byte -/
def stepQ (x : NS) (c : UInt8) (ms : List Bool) (l : List Nat) : List Bool × List Nat := if x.kind = 1 ∧ x.set.has c.toNat = true then putF ms l x.next else (ms, l)
def stepF (st : List NS) (c : UInt8) : List Nat → List Bool → List Nat → List Bool × List Nat
  | [], ms, l => (ms, l)
  | q :: qs, ms, l => match st[q]? with
    | none => (ms, l)
    | some x => stepF st c qs (stepQ x c ms l).1 (stepQ x c ms l).2

theorem has_ok' {m : Int} {fl : Nat} {hp : List Blk} {w : W4} {x : UInt8} : evI (cfg m) fl fHas [.agg [wAV w.a, wAV w.b, wAV w.c, wAV w.d], .int .u8 x.toNat] hp = some (.bool (w.has x.toNat), hp) := has_ok

theorem st_l {m : Int} {fl rb mb pb sb n k q nv : Nat} {hp : List Blk} {sl slo : AV} {s : List UInt8} {c : UInt8} {ms : List Bool} {l : List Nat} {vs rest : List AV} {st : List NS} {x : NS} (hb : blkCells hp rb = some [.arr 1 mb 0 n, sl, .ptr pb 0, .str s]) (hm : blkCells hp mb = some (ms.map .bool)) (hg : Gr fl 1 hp sl (l.map natAV)) (hpb : blkCells hp pb = some (.arr 6 sb 0 n :: rest)) (hst : StOK hp sb st) (hx : st[q]? = some x) (hq : q < n) (ho : IsSl 1 slo vs) (hv : vs[k]? = some (natAV q)) (hi : k < nv) (hnv : nv < 1000000) (hf : fl ≤ rb) (hf2 : fl ≤ mb) (hne : rb ≠ mb) (hl : n < 1000000) (hvl : x.next.length < 1000000) (hk : ∀ k ∈ x.next, k < n) (hn : ms.length = n) (hc : l.length + ms.count false = n) : ∃ hp' sl', LoopS (cfg m) fl fStep (bodyAt (cfg m) fStep 3) 3 ⟨stSt rb c slo nv k, hp⟩ ⟨stSt rb c slo nv (k + 1), hp'⟩ ∧ blkCells hp' rb = some [.arr 1 mb 0 n, sl', .ptr pb 0, .str s] ∧ blkCells hp' mb = some ((stepQ x c ms l).1.map .bool) ∧ Gr fl 1 hp' sl' ((stepQ x c ms l).2.map natAV) ∧ FrC [rb, mb] hp hp' := by
  obtain ⟨nx1, e2, h3⟩ := (E.S11.load_state (m := m) hst hx)
  by_cases h4 : x.kind = 1
  · rcases E.bcases (x.set.has c.toNat) with h5 | h5
    · obtain ⟨hp'6, sl'7, e8, h9, h10, h11, h12⟩ := (E.S11.put_ok (m := m) hb hm hg h3 hf hf2 hne hl hvl hk hn hc)
      exact ⟨hp'6, _, E.loopStepS (St.mk [TV.v (AV.ptr rb 0), TV.v (AU (↑c.toNat : Int)), J, J, J, J, J, J, J, J, J, J, J, J, J, J, J, J, J, J, J, J, J, J, J, J, J, TV.v slo, TV.v (AI (↑nv : Int)), TV.v (AI ((↑k : Int) + 1)), J, J, J, J, J, J, J, J, J, J, J, J, J, J, J, J, J, J, J, J, J, J, J, J, J, J, J, J, J, J] hp'6) [.b 3 0 (decide_eq_true ((show (↑k : Int) < (↑nv : Int) from (by omega)))), .a 4 0 (E.indexAddr_sl (C := cfg m) (t := 109) (n := (↑k : Int)) ho (by kernel_rfl) (by omega) hv), .m 5 3 (E.load_ok (C := cfg m) (t := 66) (off := 2) (x := AV.ptr pb 0) hb (by kernel_rfl)), .m 5 7 (E.load_ok (C := cfg m) (t := 104) (off := 0) (x := AV.arr 6 sb 0 n) hpb (by kernel_rfl)), .a 5 9 (E.indexAddr_arr' (C := cfg m) (t := 104) (sz := 6) (b := sb) (off := 0) (len := n) (o := q * 6) (n := (↑q : Int)) (by kernel_rfl) (by omega) (by omega) (by simp only [Int.toNat_natCast, Nat.zero_add, Nat.mul_one])), .m 5 10 e2, .b 6 2 (beq_iff_eq.2 h4), .cb 6 7 (E.S11.has_ok' (m := m) (fl := fl) (hp := hp) (w := x.set) (x := c)) h5, .c 7 5 e8, .w 8 0 IntKind.i64 ((↑k : Int) + 1) (E.wrap_i64' (by omega))] (by kernel_rfl) (by simp [stepQ, *]), by assumption, by simp [stepQ, *], by simp [stepQ, *], by first | assumption | exact .refl _ _⟩
    · exact ⟨hp, _, E.loopStepS (St.mk [TV.v (AV.ptr rb 0), TV.v (AU (↑c.toNat : Int)), J, J, J, J, J, J, J, J, J, J, J, J, J, J, J, J, J, J, J, J, J, J, J, J, J, TV.v slo, TV.v (AI (↑nv : Int)), TV.v (AI ((↑k : Int) + 1)), J, J, J, J, J, J, J, J, J, J, J, J, J, J, J, J, J, J, J, J, J, J, J, J, J, J, J, J, J, J] hp) [.b 3 0 (decide_eq_true ((show (↑k : Int) < (↑nv : Int) from (by omega)))), .a 4 0 (E.indexAddr_sl (C := cfg m) (t := 109) (n := (↑k : Int)) ho (by kernel_rfl) (by omega) hv), .m 5 3 (E.load_ok (C := cfg m) (t := 66) (off := 2) (x := AV.ptr pb 0) hb (by kernel_rfl)), .m 5 7 (E.load_ok (C := cfg m) (t := 104) (off := 0) (x := AV.arr 6 sb 0 n) hpb (by kernel_rfl)), .a 5 9 (E.indexAddr_arr' (C := cfg m) (t := 104) (sz := 6) (b := sb) (off := 0) (len := n) (o := q * 6) (n := (↑q : Int)) (by kernel_rfl) (by omega) (by omega) (by simp only [Int.toNat_natCast, Nat.zero_add, Nat.mul_one])), .m 5 10 e2, .b 6 2 (beq_iff_eq.2 h4), .cb 6 7 (E.S11.has_ok' (m := m) (fl := fl) (hp := hp) (w := x.set) (x := c)) h5, .w 8 0 IntKind.i64 ((↑k : Int) + 1) (E.wrap_i64' (by omega))] (by kernel_rfl) (by simp [stepQ, *]), by assumption, by simp [stepQ, *], by simp [stepQ, *], by first | assumption | exact .refl _ _⟩
  · exact ⟨hp, _, E.loopStepS (St.mk [TV.v (AV.ptr rb 0), TV.v (AU (↑c.toNat : Int)), J, J, J, J, J, J, J, J, J, J, J, J, J, J, J, J, J, J, J, J, J, J, J, J, J, TV.v slo, TV.v (AI (↑nv : Int)), TV.v (AI ((↑k : Int) + 1)), J, J, J, J, J, J, J, J, J, J, J, J, J, J, J, J, J, J, J, J, J, J, J, J, J, J, J, J, J, J] hp) [.b 3 0 (decide_eq_true ((show (↑k : Int) < (↑nv : Int) from (by omega)))), .a 4 0 (E.indexAddr_sl (C := cfg m) (t := 109) (n := (↑k : Int)) ho (by kernel_rfl) (by omega) hv), .m 5 3 (E.load_ok (C := cfg m) (t := 66) (off := 2) (x := AV.ptr pb 0) hb (by kernel_rfl)), .m 5 7 (E.load_ok (C := cfg m) (t := 104) (off := 0) (x := AV.arr 6 sb 0 n) hpb (by kernel_rfl)), .a 5 9 (E.indexAddr_arr' (C := cfg m) (t := 104) (sz := 6) (b := sb) (off := 0) (len := n) (o := q * 6) (n := (↑q : Int)) (by kernel_rfl) (by omega) (by omega) (by simp only [Int.toNat_natCast, Nat.zero_add, Nat.mul_one])), .m 5 10 e2, .b 6 2 (beq_false_of_ne h4), .w 8 0 IntKind.i64 ((↑k : Int) + 1) (E.wrap_i64' (by omega))] (by kernel_rfl) (by simp [stepQ, *]), by assumption, by simp [stepQ, *], by simp [stepQ, *], by first | assumption | exact .refl _ _⟩

theorem st_x {m : Int} {fl rb n k : Nat} {hp : List Blk} {x : AV} {c : UInt8} (hi : n ≤ k) : LoopI (cfg m) fl fStep (bodyAt (cfg m) fStep 3) 3 ⟨stSt rb c x n k, hp⟩ (.exit 0) ⟨stEnd, hp⟩ := by
  exact E.loopEndC (.exit 0) (St.mk [J, J, J, J, J, J, J, J, J, J, J, J, J, J, J, J, J, J, J, J, J, J, J, J, J, J, J, J, J, J, J, J, J, J, J, J, J, J, J, J, J, J, J, J, J, J, J, J, J, J, J, J, J, J, J, J, J, J, J, J] hp) [.b 3 0 (decide_eq_false ((show ¬(↑k : Int) < (↑n : Int) from (by omega))))] (by kernel_rfl) (fun h => by cases h) rfl

theorem stepQ_len (x : NS) (c : UInt8) (ms : List Bool) (l : List Nat) : (stepQ x c ms l).1.length = ms.length := by
  unfold stepQ
  split
  · exact putF_len _ _ _
  · rfl
theorem stepQ_count (x : NS) (c : UInt8) (ms : List Bool) (l : List Nat) : (stepQ x c ms l).2.length + (stepQ x c ms l).1.count false = l.length + ms.count false := by
  unfold stepQ
  split
  · exact putF_count _ _ _
  · rfl
theorem stepQ_mem {n : Nat} (x : NS) (c : UInt8) (ms : List Bool) (l : List Nat) (h : ∀ q ∈ l, q < n) (hx : ∀ k ∈ x.next, k < n) : ∀ q ∈ (stepQ x c ms l).2, q < n := by
  unfold stepQ
  split
  · exact putF_mem _ _ _ h hx
  · exact h

theorem st_loop {m : Int} {fl rb mb pb sb nv : Nat} {s : List UInt8} {c : UInt8} {rest vs : List AV} {slo : AV} {st : List NS} (hw : WF st) (ho : IsSl 1 slo vs) (hnv : nv = vs.length) (hnv2 : nv < 1000000) (hf : fl ≤ rb) (hf2 : fl ≤ mb) (hne : rb ≠ mb) (hps : pb ≠ rb) (hpm : pb ≠ mb) (hsr : sb ≠ rb) (hsm : sb ≠ mb) :
    ∀ (qs : List Nat) (k : Nat) {hp : List Blk} {sl : AV} {ms : List Bool} {l : List Nat}, vs.drop k = qs.map natAV → (∀ q ∈ qs, q < st.length) → blkCells hp rb = some [.arr 1 mb 0 st.length, sl, .ptr pb 0, .str s] → blkCells hp mb = some (ms.map .bool) → Gr fl 1 hp sl (l.map natAV) → blkCells hp pb = some (.arr 6 sb 0 st.length :: rest) → StOK hp sb st →
      ms.length = st.length → l.length + ms.count false = st.length →
      ∃ hp' sl', LoopI (cfg m) fl fStep (bodyAt (cfg m) fStep 3) 3 ⟨stSt rb c slo nv k, hp⟩ (.exit 0) ⟨stEnd, hp'⟩ ∧ blkCells hp' rb = some [.arr 1 mb 0 st.length, sl', .ptr pb 0, .str s] ∧ blkCells hp' mb = some ((stepF st c qs ms l).1.map .bool) ∧ Gr fl 1 hp' sl' ((stepF st c qs ms l).2.map natAV) ∧ FrC [rb, mb] hp hp'
  | [], k, hp, sl, ms, l, hd, _, hb, hm, hg, hpb, hst, hn, hc => by
    have : vs.length ≤ k := by simpa using hd
    exact ⟨hp, sl, st_x (by omega), hb, hm, hg, .refl _ _⟩
  | q :: qs, k, hp, sl, ms, l, hd, hq, hb, hm, hg, hpb, hst, hn, hc => by
    have h1 : vs[k]? = some (natAV q) := by
      have := congrArg (·[0]?) hd
      simpa using this
    have hi : k < vs.length := (List.getElem?_eq_some_iff.1 h1).1
    have hd' : vs.drop (k + 1) = qs.map natAV := by
      rw [← List.drop_drop, hd]; rfl
    have hqn : q < st.length := hq q (by simp)
    have hx : st[q]? = some st[q] := List.getElem?_eq_getElem hqn
    obtain ⟨w1, w2⟩ := hw.2 st[q] (List.getElem_mem hqn)
    simp only [stepF, hx]
    obtain ⟨hp1, sl1, s1, s2, s3, s4, s5⟩ := st_l (m := m) (c := c) (nv := nv) hb hm hg hpb hst hx hqn ho h1 (by omega) hnv2 hf hf2 hne hw.1 w1 w2 hn hc
    have hpb1 : blkCells hp1 pb = some (.arr 6 sb 0 st.length :: rest) := s5.2 _ _ (by simp; exact ⟨hps, hpm⟩) hpb
    have hst1 : StOK hp1 sb st := hst.fr s5 (by simp; exact ⟨hsr, hsm⟩)
    obtain ⟨hp2, sl2, r1, r2, r3, r4, r5⟩ := st_loop (m := m) (c := c) hw ho hnv hnv2 hf hf2 hne hps hpm hsr hsm qs (k + 1) hd' (fun x hx => hq x (by simp [hx])) s2 s3 s4 hpb1 hst1 (by rw [stepQ_len]; exact hn) (by rw [stepQ_count]; exact hc)
    exact ⟨hp2, sl2, s1 _ _ r1, r2, r3, r4, s5.trans r5⟩

/-- a place's closed states, by a byte -/
theorem st_lp {m : Int} {fl rb mb pb sb nv : Nat} {s : List UInt8} {c : UInt8} {rest : List AV} {slo sl : AV} {st : List NS} {qs : List Nat} {hp : List Blk} {ms : List Bool} {l : List Nat} (hb : blkCells hp rb = some [.arr 1 mb 0 st.length, sl, .ptr pb 0, .str s]) (hm : blkCells hp mb = some (ms.map .bool)) (hg : Gr fl 1 hp sl (l.map natAV)) (hpb : blkCells hp pb = some (.arr 6 sb 0 st.length :: rest)) (hst : StOK hp sb st) (hw : WF st) (ho : IsSl 1 slo (qs.map natAV)) (hnv : nv = (qs.map natAV).length) (hq : ∀ q ∈ qs, q < st.length) (hql : qs.length ≤ st.length)
    (hf : fl ≤ rb) (hf2 : fl ≤ mb) (hne : rb ≠ mb) (hps : pb ≠ rb) (hpm : pb ≠ mb) (hsr : sb ≠ rb) (hsm : sb ≠ mb) (hn : ms.length = st.length) (hc : l.length + ms.count false = st.length) :
      ∃ hp' sl', LoopI (cfg m) fl fStep (bodyAt (cfg m) fStep 3) 3 ⟨stSt rb c slo nv 0, hp⟩ (.exit 0) ⟨stEnd, hp'⟩ ∧ blkCells hp' rb = some [.arr 1 mb 0 st.length, sl', .ptr pb 0, .str s] ∧ blkCells hp' mb = some ((stepF st c qs ms l).1.map .bool) ∧ Gr fl 1 hp' sl' ((stepF st c qs ms l).2.map natAV) ∧ FrC [rb, mb] hp hp' :=
  st_loop hw ho (by simpa using hnv) (by simp at hnv; have := hw.1; omega) hf hf2 hne hps hpm hsr hsm qs 0 rfl hq hb hm hg hpb hst hn hc

theorem gr_nil {fl : Nat} {hp : List Blk} : Gr fl 1 hp .nilS (([] : List Nat).map natAV) := .nil _ _ _
theorem StOK.set {hp : List Blk} {sb b : Nat} {x : Blk} {st : List NS} (h : StOK hp sb st) (hn : b ≠ sb) : StOK (setAt hp b x) sb st := by
  obtain ⟨cs, h1, h2⟩ := h
  exact ⟨cs, blk_set_ne hn h1, h2⟩
theorem StOK.app {hp r : List Blk} {sb : Nat} {st : List NS} (h : StOK hp sb st) : StOK (hp ++ r) sb st := by
  obtain ⟨cs, h1, h2⟩ := h
  exact ⟨cs, blk_app h1, h2⟩
theorem count0 {n : Nat} : ([] : List Nat).length + (List.replicate n false).count false = n := by simp
theorem FrC.step {rb : Nat} {hp hp' : List Blk} {x y : Blk} (h : FrC [rb, hp.length] (setAt hp rb x ++ [y]) hp') : FrC [rb] hp hp' := by
  refine ⟨Nat.le_trans (by simp [setAt_length]) h.1, fun b cs hb hc => ?_⟩
  have hlt := blk_lt hc
  exact h.2 b cs (by simp at hb ⊢; omega) (blk_app (blk_set_ne (by simp at hb; omega) hc))

theorem step_ok {m : Int} {fl rb mb pb sb : Nat} {s : List UInt8} {c : UInt8} {rest : List AV} {sl : AV} {st : List NS} {hp : List Blk} {l : List Nat} (hb : blkCells hp rb = some [.arr 1 mb 0 st.length, sl, .ptr pb 0, .str s]) (hg : Gr fl 1 hp sl (l.map natAV)) (hpb : blkCells hp pb = some (.arr 6 sb 0 st.length :: rest)) (hst : StOK hp sb st) (hw : WF st) (hw1 : st.length ≤ 1000000) (hq : ∀ q ∈ l, q < st.length) (hql : l.length ≤ st.length) (hf : fl ≤ rb) (hf3 : fl ≤ hp.length) (hps : pb ≠ rb) (hsr : sb ≠ rb) (hsl : sb < hp.length) : ∃ hp' sl', evI (cfg m) fl fStep [.ptr rb 0, .int .u8 c.toNat] hp = some (.tup [], hp') ∧ blkCells hp' rb = some [.arr 1 hp.length 0 st.length, sl', .ptr pb 0, .str s] ∧ blkCells hp' hp.length = some ((stepF st c l (List.replicate st.length false) []).1.map .bool) ∧ Gr fl 1 hp' sl' ((stepF st c l (List.replicate st.length false) []).2.map natAV) ∧ FrC [rb] hp hp' := by
  obtain ⟨hp'1, sl'2, e3, h4, h5, h6, h7⟩ := (E.S11.st_lp (m := m) (nv := (List.map natAV l).length) (s := s) (c := c) (rest := rest) (slo := sl) (sl := AV.nilS) (hp := setAt hp rb (BC [AV.arr 1 hp.length 0 st.length, AV.nilS, AV.ptr pb 0, AV.str s]) ++ [BC (List.map AV.bool (List.replicate st.length false))]) (ms := List.replicate st.length false) (l := []) (E.blk_app (E.blk_set (E.blk_lt hb))) (E.blk_last' (by simp only [E.setAt_length])) (E.S11.gr_nil (fl := fl) (hp := setAt hp rb (BC [AV.arr 1 hp.length 0 st.length, AV.nilS, AV.ptr pb 0, AV.str s]) ++ [BC (List.map AV.bool (List.replicate st.length false))])) (E.blk_app (E.blk_set_ne (by omega) hpb)) (E.S11.StOK.app (hp := setAt hp rb (BC [AV.arr 1 hp.length 0 st.length, AV.nilS, AV.ptr pb 0, AV.str s])) (r := [BC (List.map AV.bool (List.replicate st.length false))]) (sb := sb) (st := st) (E.S11.StOK.set (b := rb) (x := BC [AV.arr 1 hp.length 0 st.length, AV.nilS, AV.ptr pb 0, AV.str s]) hst (by omega))) hw (E.Gr.isSl hg) rfl hq hql hf hf3 (by have := E.blk_lt hb; have := E.blk_lt hpb; omega) hps (by have := E.blk_lt hb; have := E.blk_lt hpb; omega) hsr (by omega) (by simp_all; done) (E.S11.count0 (n := st.length)))
  exact ⟨hp'1, _, E.evX (AV.tup []) (hp'1) [.m 0 4 (E.load_ok (C := cfg m) (t := 109) (off := 1) (x := sl) hb (by kernel_rfl)), .m 1 4 (E.load_ok (C := cfg m) (t := 66) (off := 2) (x := AV.ptr pb 0) hb (by kernel_rfl)), .m 1 8 (E.load_ok (C := cfg m) (t := 104) (off := 0) (x := AV.arr 6 sb 0 st.length) hpb (by kernel_rfl)), .m 1 10 (E.mkSl_bools (C := cfg m) (t := 103) (hp := hp) (k := IntKind.i64) (k' := IntKind.i64) (by kernel_rfl) hw1), .t 1 14 (E.store_ok (C := cfg m) (t := 111) (off := 0) (hp := hp ++ [BC (List.map AV.bool (List.replicate st.length false))]) (hp' := setAt hp rb (BC [AV.arr 1 hp.length 0 st.length, AV.nilS, AV.ptr pb 0, AV.str s]) ++ [BC (List.map AV.bool (List.replicate st.length false))]) (cs := [AV.arr 1 mb 0 st.length, sl, AV.ptr pb 0, AV.str s]) (cs' := [AV.arr 1 hp.length 0 st.length, AV.nilS, AV.ptr pb 0, AV.str s]) (x := AV.agg [AV.arr 1 hp.length 0 st.length, AV.nilS]) (E.blk_app hb) (by kernel_rfl) hf (E.setAt_app (E.blk_lt hb))), .m 2 1 (E.len_sl (C := cfg m) (t := 109) (ts' := []) (fl := fl) (ar := false) (sz := 1) (x := sl) (vs := List.map natAV l) (hp := setAt hp rb (BC [AV.arr 1 hp.length 0 st.length, AV.nilS, AV.ptr pb 0, AV.str s]) ++ [BC (List.map AV.bool (List.replicate st.length false))]) (E.Gr.isSl hg) (by kernel_rfl)), .l 3 e3] (by kernel_rfl) (E.tlK (by kernel_rfl) rfl) rfl, by assumption, by assumption, by assumption, by exact FrC.step ‹FrC [_, _] _ _›⟩
end Go.Proofs.YtkocimfdgdegfaaGreatDoor.E.S11
