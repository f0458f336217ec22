/- Steps of the seat's proofs. -/
import Derived.Test.YtkocimfdgdegfaaGreatDoorERound
set_option linter.unusedSimpArgs false
set_option linter.unusedVariables false
namespace Go.Proofs.YtkocimfdgdegfaaGreatDoor.E.S11
open Go Go.Proofs E E.R
theorem mPut_e (first : Nat) (w : Bool) (pl : Nat) (ms : List Bool) (l : List Nat) : ((pl : Int) = 0 ∧ mPut first w pl ms l = putF ms l [first]) ∨ (¬ (pl : Int) = 0 ∧ w = false ∧ mPut first w pl ms l = putF ms l [first]) ∨ (¬ (pl : Int) = 0 ∧ w = true ∧ mPut first w pl ms l = (ms, l)) := by
  unfold mPut
  by_cases h : pl = 0
  · left; simp [h]
  · right
    cases w <;> simp [h]

theorem m_loop {m : Int} {fl pb rb sb first : Nat} {s : List UInt8} {w : Bool} {st : List NS} {x1 x2 x3 x4 x5 x6 x7 x8 : AV} (hw : WF st) (hfi : first < st.length) (hf : fl ≤ rb) (hps : pb ≠ rb) (hsr : sb ≠ rb) (hsz : s.length < 4611686018427387904) :
    ∀ (cs : List UInt8) (pl : Nat) {hp : List Blk} {sl : AV} {mb : Nat} {ms : List Bool} {l : List Nat}, s.drop pl = cs → pl ≤ s.length → blkCells hp rb = some [.arr 1 mb 0 st.length, sl, .ptr pb 0, .str s] → blkCells hp mb = some (ms.map .bool) → Gr fl 1 hp sl (l.map natAV) → blkCells hp pb = some (progB sb st.length x1 x2 x3 x4 x5 x6 x7 x8 first) → StOK hp sb st → fl ≤ mb → fl ≤ hp.length → rb ≠ mb → pb ≠ mb → sb ≠ mb → ms.length = st.length → l.length + ms.count false = st.length → (∀ q ∈ l, q < st.length) → sb < hp.length →
      ∃ hp', LoopI (cfg m) fl fMatches (bodyAt (cfg m) fMatches 4) 4 ⟨mSt pb rb s w pl, hp⟩ .ret ⟨mEnd (mF st first w s.length cs pl ms l), hp'⟩ ∧ True
  | [], pl, hp, sl, mb, ms, l, hd, hpl, hb, hm, hg, hpb, hst, hf2, hf3, hne, hpm, hsm, hn, hc, hq, hsl => by
    have he : pl = s.length := by
      have : s.length ≤ pl := by simpa using hd
      omega
    have ht : (pl = s.length) = True := by simp [he]
    rw [mF]
    rcases mPut_e first w pl ms l with ⟨a, b⟩ | ⟨a, b, c⟩ | ⟨a, b, c⟩
    · rw [b]; exact m_e1 hb hm hg hpb hst hw hw.1 hfi a hf hf2 hne hps hpm hsr hsm hn hc hq he ht hsl
    · rw [c]; exact m_e2 hb hm hg hpb hst hw hw.1 hfi a b hf hf2 hne hps hpm hsr hsm hn hc hq he ht hsl
    · rw [c]; exact m_e3 hb hm hg hpb hst hw hw.1 hfi a b hf hf2 hne hps hpm hsr hsm hn hc hq he ht hsl
  | c0 :: cs, pl, hp, sl, mb, ms, l, hd, hpl, hb, hm, hg, hpb, hst, hf2, hf3, hne, hpm, hsm, hn, hc, hq, hsl => by
    have hlt : pl < s.length := by
      rcases Nat.lt_or_ge pl s.length with h | h
      · exact h
      · rw [List.drop_eq_nil_of_le h] at hd; cases hd
    have hg0 : gb s pl = c0 := by
      have : s[pl]? = some c0 := by
        have := congrArg (·[0]?) hd
        simpa using this
      unfold gb
      rw [List.getD_eq_getElem?_getD, this]; rfl
    have hd' : s.drop (pl + 1) = cs := by rw [← List.drop_drop, hd]; rfl
    subst hg0
    rw [mF]
    have ih : ∀ {hp1 : List Blk} {sl1 : AV} {mb1 : Nat} {ms1 : List Bool} {l1 : List Nat}, blkCells hp1 rb = some [.arr 1 mb1 0 st.length, sl1, .ptr pb 0, .str s] → blkCells hp1 mb1 = some (ms1.map .bool) → Gr fl 1 hp1 sl1 (l1.map natAV) → blkCells hp1 pb = some (progB sb st.length x1 x2 x3 x4 x5 x6 x7 x8 first) → StOK hp1 sb st → fl ≤ mb1 → fl ≤ hp1.length → rb ≠ mb1 → pb ≠ mb1 → sb ≠ mb1 → ms1.length = st.length → l1.length + ms1.count false = st.length → (∀ q ∈ l1, q < st.length) → sb < hp1.length → ∃ hp', LoopI (cfg m) fl fMatches (bodyAt (cfg m) fMatches 4) 4 ⟨mSt pb rb s w (pl + 1), hp1⟩ .ret ⟨mEnd (mF st first w s.length cs (pl + 1) ms1 l1), hp'⟩ ∧ True :=
      fun a1 a2 a3 a4 a5 a6 a7 a8 a9 a10 a11 a12 a13 a14 => m_loop hw hfi hf hps hsr hsz cs (pl + 1) hd' hlt a1 a2 a3 a4 a5 a6 a7 a8 a9 a10 a11 a12 a13 a14
    rcases mPut_e first w pl ms l with ⟨a, b⟩ | ⟨a, b, c⟩ | ⟨a, b, c⟩
    · rw [b]; exact m_c1 hb hm hg hpb hst hw hw.1 hfi a hf hf2 hf3 hne hps hpm hsr hsm hn hc hq hlt (by omega) hsz hsl ih
    · rw [c]; exact m_c2 hb hm hg hpb hst hw hw.1 hfi a b hf hf2 hf3 hne hps hpm hsr hsm hn hc hq hlt (by omega) hsz hsl ih
    · rw [c]; exact m_c3 hb hm hg hpb hst hw hw.1 hfi a b hf hf2 hf3 hne hps hpm hsr hsm hn hc hq hlt (by omega) hsz hsl ih

/-- does a text match? -/
def matchF (st : List NS) (first : Nat) (w : Bool) (s : List UInt8) : Bool := mF st first w s.length s 0 (List.replicate st.length false) []

theorem m_lp {m : Int} {fl pb rb mb sb first : Nat} {hp : List Blk} {s : List UInt8} {w : Bool} {st : List NS} {x1 x2 x3 x4 x5 x6 x7 x8 : AV} (hb : blkCells hp rb = some [.arr 1 mb 0 st.length, .nilS, .ptr pb 0, .str s]) (hm : blkCells hp mb = some ((List.replicate st.length false).map .bool)) (hpb : blkCells hp pb = some (progB sb st.length x1 x2 x3 x4 x5 x6 x7 x8 first)) (hst : StOK hp sb st) (hw : WF st) (hfi : first < st.length) (hsz : s.length < 4611686018427387904) (hf : fl ≤ rb) (hf2 : fl ≤ mb) (hf3 : fl ≤ hp.length) (hne : rb ≠ mb) (hps : pb ≠ rb) (hpm : pb ≠ mb) (hsr : sb ≠ rb) (hsm : sb ≠ mb) (hsl : sb < hp.length) :
    ∃ hp', LoopI (cfg m) fl fMatches (bodyAt (cfg m) fMatches 4) 4 ⟨mSt pb rb s w 0, hp⟩ .ret ⟨mEnd (matchF st first w s), hp'⟩ ∧ True :=
  m_loop hw hfi hf hps hsr hsz s 0 rfl (by omega) hb hm gr_nil hpb hst hf2 hf3 hne hpm hsm (by simp) (by simp) (by simp) hsl

theorem matches_ok {m : Int} {fl pb sb first : Nat} {hp : List Blk} {s : List UInt8} {w : Bool} {st : List NS} {x1 x2 x3 x4 x5 x6 x7 x8 : AV} (hpb : blkCells hp pb = some (progB sb st.length x1 x2 x3 x4 x5 x6 x7 x8 first)) (hst : StOK hp sb st) (hw : WF st) (hw1 : st.length ≤ 1000000) (hfi : first < st.length) (hsz : s.length < 4611686018427387904) (hsl : sb < hp.length) : evI (cfg m) fl fMatches [.ptr pb 0, .str s, .bool w] hp = some (.bool (matchF st first w s), hp) := by
  obtain ⟨hp'1, e2, h3⟩ := (E.S11.m_lp (m := m) (fl := hp.length) (pb := pb) (rb := (hp ++ [BC (List.map AV.bool (List.replicate st.length false))]).length) (mb := hp.length) (sb := sb) (hp := hp ++ [BC (List.map AV.bool (List.replicate st.length false))] ++ [BC [AV.arr 1 hp.length 0 st.length, AV.nilS, AV.ptr pb 0, AV.str s]]) (w := w) (x1 := x1) (x2 := x2) (x3 := x3) (x4 := x4) (x5 := x5) (x6 := x6) (x7 := x7) (x8 := x8) E.blk_last (E.blk_app E.blk_last) (E.blk_app (E.blk_app hpb)) (E.S11.StOK.app (hp := hp ++ [BC (List.map AV.bool (List.replicate st.length false))]) (r := [BC [AV.arr 1 hp.length 0 st.length, AV.nilS, AV.ptr pb 0, AV.str s]]) (sb := sb) (st := st) (E.S11.StOK.app (r := [BC (List.map AV.bool (List.replicate st.length false))]) hst)) hw hfi hsz (by have := E.blk_lt hpb; simp only [E.setAt_length, List.length_append, List.length_cons, List.length_nil, List.length_map] at *; omega) (by omega) (by have := E.blk_lt hpb; simp only [E.setAt_length, List.length_append, List.length_cons, List.length_nil, List.length_map] at *; omega) (by have := E.blk_lt hpb; simp only [E.setAt_length, List.length_append, List.length_cons, List.length_nil, List.length_map] at *; omega) (by have := E.blk_lt hpb; simp only [E.setAt_length, List.length_append, List.length_cons, List.length_nil, List.length_map] at *; omega) (by have := E.blk_lt hpb; omega) (by have := E.blk_lt hpb; simp only [E.setAt_length, List.length_append, List.length_cons, List.length_nil, List.length_map] at *; omega) (by omega) (by have := E.blk_lt hpb; simp only [E.setAt_length, List.length_append, List.length_cons, List.length_nil, List.length_map] at *; omega))
  exact E.evX (AV.bool (matchF st first w s)) (hp'1) [.m 1 4 (E.load_ok (C := cfg m) (t := 104) (off := 0) (x := AV.arr 6 sb 0 st.length) hpb (by kernel_rfl)), .m 1 6 (E.mkSl_bools (C := cfg m) (t := 103) (hp := hp) (k := IntKind.i64) (k' := IntKind.i64) (by kernel_rfl) hw1), .l 4 e2] (by kernel_rfl) (E.tlP (by kernel_rfl) rfl (E.shutT (v := AV.bool (matchF st first w s)) (v' := AV.bool (matchF st first w s)) (by kernel_rfl))) (by simp [*])
end Go.Proofs.YtkocimfdgdegfaaGreatDoor.E.S11
