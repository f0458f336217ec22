/- Summaries of calls of the library; arguments of plain data; listed variables. -/
import Derived.Test.YtkocimfdgdegfaaGreatDoorEf
import Derived.Lib.Bytealg
import Derived.Lib.Join
import Derived.Laws.Externs
import Derived.ChangeArms
import Derived.OpenShut
import Derived.WideShapes
import Derived.Lib.IndexMore
set_option linter.unusedSimpArgs false
set_option linter.unusedVariables false
namespace Go.Proofs.YtkocimfdgdegfaaGreatDoor.E
open Go Go.RowKit Go.Lib
variable {P : Program} {C : Cfg}

/-! ### calls of Go's library, by what they say -/

theorem frozen_of_block {w w' : World} {r o : Nat} (h : w'.heap[r]? = w.heap[r]?) : w'.frozen? ⟨r, o, none⟩ = w.frozen? ⟨r, o, none⟩ := by
  unfold World.frozen?; simp only [h]
theorem cell_of_block {w w' : World} {r o : Nat} (h : w'.heap[r]? = w.heap[r]?) : w'.cell? ⟨r, o, none⟩ = w.cell? ⟨r, o, none⟩ := World.cell?_of_block h

theorem low {w : World} {r o : Nat} {v : Value} (h : w.cell? ⟨r, o, none⟩ = some v) : r < w.heap.size := by
  rcases Nat.lt_or_ge r w.heap.size with h' | h'
  · exact h'
  · exfalso
    simp [World.cell?, Array.getElem?_eq_none h'] at h

/-- a world that has grown: nothing of before has turned -/
theorem ext_grow {n : Nat} {glob : Nat → Option AV} {B : Nat} {w0 : World} {L : Lay} {w w' : World} {hp : List Blk} (h : Inv glob B w0 L w hp) (hb : Below w.heap.size w w') : Ext n L w L w' := by
  refine ⟨fun r o hr => ⟨hr, ?_⟩, fun b p _ hp => ⟨hp, fun _ _ h => h, rfl⟩, fun g F _ hF => ⟨F, hF, .inl rfl⟩⟩
  refine cell_of_block (hb.block r ?_)
  rcases Nat.lt_or_ge r w.heap.size with h' | h'
  · exact h'
  · rw [h.fresh r o h'] at hr; cases hr
theorem inv_grow {glob : Nat → Option AV} {B : Nat} {w0 : World} {L : Lay} {w w' : World} {hp : List Blk} (h : Inv glob B w0 L w hp) (hb : Below w.heap.size w w') : Inv glob B w0 L w' hp := by
  refine ⟨h.below.trans (hb.mono h.size), Nat.le_trans h.size hb.size, fun b cs hc => ?_, fun r o b hr => ?_, h.fams, fun r o g hr => ?_, fun r o hr => h.fresh r o (Nat.le_trans hb.size hr), h.noLoc, h.noFam, fun g v hg => (h.globs g v hg).mono (Nat.le_refl _) (ext_grow h hb)⟩
  · obtain ⟨p, h1, h2, h3⟩ := h.blks b cs hc
    refine ⟨p, h1, h2, fun j c hj => ?_⟩
    obtain ⟨k1, k2, rv, k3, k4⟩ := h3 j c hj
    exact ⟨k1, k2, rv, (cell_of_block (hb.block _ (low k3))).trans k3, k4.mono (Nat.le_refl _) (ext_grow h hb)⟩
  · obtain ⟨k1, ⟨v, k2⟩, k3⟩ := h.own r o b hr
    exact ⟨k1, ⟨v, (cell_of_block (hb.block _ (low k2))).trans k2⟩, (frozen_of_block (hb.block _ (low k2))).trans k3⟩
  · obtain ⟨k1, ⟨v, k2⟩, k3⟩ := h.spare r o g hr
    exact ⟨k1, ⟨v, (cell_of_block (hb.block _ (low k2))).trans k2⟩, (frozen_of_block (hb.block _ (low k2))).trans k3⟩

theorem grow_post {B : Nat} {w0 : World} {L : Lay} {w w' : World} {hp : List Blk} (h : Inv C.glob B w0 L w hp) (hb : Below w.heap.size w w') {v : AV} {rv : Value} (hv : VR hp.length L w' v rv) :
    CallPost C B w0 L w hp.length v hp (.returned rv) w' :=
  ⟨rv, L, rfl, inv_grow h hb, ext_grow h hb, fun r o t hr hl => ⟨hl, cell_of_block (hb.block _ hr), frozen_of_block (hb.block _ hr)⟩, hb.size, Nat.le_refl _, hv⟩

/-! internal/bytealg.IndexByteString -/
def ixB (c : Nat) : List UInt8 → Nat → Int
  | [], _ => -1
  | b :: l, i => bif Nat.beq b.toNat c then (i : Int) else ixB c l (i + 1)

theorem ixB_eq {c : Nat} (hc : c < 256) : ∀ (l : List UInt8) (i : Nat), ixB c l i = if indexByte l c.toUInt8 = -1 then -1 else indexByte l c.toUInt8 + i
  | [], i => by simp [ixB, indexByte]
  | b :: l, i => by
    have ih := ixB_eq hc l (i + 1)
    have hge := indexByte_ge l c.toUInt8
    unfold ixB indexByte
    by_cases h : b = c.toUInt8
    · have e : b.toNat = c := by
        rw [h]
        show (UInt8.ofNat c).toNat = c
        rw [UInt8.toNat_ofNat']; exact Nat.mod_eq_of_lt hc
      have e2 : Nat.beq b.toNat c = true := by rw [e]; exact Nat.beq_refl c
      have e3 : (b == c.toUInt8) = true := by simpa using h
      rw [e2, cond_true rfl]
      simp only [e3, if_true]
      rw [if_neg (by omega)]; omega
    · have e2 : Nat.beq b.toNat c = false := by
        rw [Bool.eq_false_iff]
        intro h2
        apply h
        have : b.toNat = c := Nat.eq_of_beq_eq_true h2
        rw [← this]
        show b = UInt8.ofNat b.toNat
        exact UInt8.ofNat_toNat.symm
      have e3 : ¬ (b == c.toUInt8) = true := by simpa using h
      rw [e2, cond_false rfl, ih]
      simp only [if_neg e3]
      generalize indexByte l c.toUInt8 = x at *
      by_cases hx : x = -1
      · subst hx; rfl
      · have hx' : ¬ (x == -1) = true := by simpa using hx
        rw [if_neg hx, if_neg hx', if_neg (by omega)]
        omega

def extIx : List AV → Option AV
  | [.str s, .int .u8 c] => bif decide (0 ≤ c) && decide (c < 256) then some (.int .i64 (ixB c.toNat s 0)) else none
  | _ => none

theorem extIx_ok {f : FuncId} {fn : Func} (hf : P.funcs[f]? = some fn) (hname : (fn.name == "runtime.NumGoroutine") = false) (hb : fn.body.isNone = true) (hn : Extern.findNext fn = none) (he : Extern.find fn = some Extern.BytealgIndexByte.indexByte)
    (args : List AV) (v : AV) (hp : List Blk) (hv : extIx args = some v) (B : Nat) (w0 : World) (L : Lay) (w : World) (rargs : List Value) (hI : Inv C.glob B w0 L w hp) (hA : CR hp.length L w args rargs) :
    FCalls P f rargs.toArray w (CallPost C B w0 L w hp.length v hp) := by
  unfold extIx at hv
  split at hv
  · rename_i s c
    simp only [cond_eq_ite] at hv
    split at hv
    · rename_i hc
      cases hv
      simp only [Bool.and_eq_true, decide_eq_true_eq] at hc
      obtain ⟨hl, hA⟩ := hA
      obtain ⟨r0, r1, rfl⟩ : ∃ r0 r1, rargs = [r0, r1] := by
        match rargs, hl with
        | [a, b], _ => exact ⟨a, b, rfl⟩
      have h0 := hA 0 _ r0 rfl rfl
      have h1 := hA 1 _ r1 rfl rfl
      cases h0 with | str _ bs hs => ?_
      cases h1
      unfold FCalls
      rw [run_callFunc_extern hf hname hb hn he, Lib.run_indexByteString]
      simp only [Result.andThen]
      refine grow_post hI (Below.refl _ _) ?_
      have e := ixB_eq (c := c.toNat) (by omega) s 0
      have hge := indexByte_ge s c.toNat.toUInt8
      rw [hs]
      rw [show ixB c.toNat s 0 = indexByte s c.toNat.toUInt8 by rw [e]; split <;> omega]
      exact .int _ _
    · cases hv
  · cases hv

/-! strings.Join -/
def strsOf : List AV → Option (List (List UInt8))
  | [] => some []
  | .str s :: l => (strsOf l).map (s :: ·)
  | _ => none
def joinB (sep : List UInt8) : List (List UInt8) → List UInt8
  | [] => []
  | [x] => x
  | x :: l => x ++ (sep ++ joinB sep l)
theorem joinB_eq (sep : List UInt8) : ∀ l : List (List UInt8), joinB sep l = Lib.join l sep
  | [] => rfl
  | [x] => by simp [joinB, Lib.join, List.intercalate]
  | x :: y :: l => by
    have ih := joinB_eq sep (y :: l)
    rw [joinB, ih]
    simp [Lib.join, List.intercalate]
    intro h; cases h

def extJoin : List AV → Option AV
  | [.nilS, .str _] => some (.str [])
  | [.lit 1 _ xs, .str sep] => match strsOf xs with
    | some ss => bif decide (xs.length ≤ 140737488355328) && decide ((joinB sep ss).length ≤ 140737488355328) then some (.str (joinB sep ss)) else none
    | none => none
  | _ => none

/-- what strings.Join's contract says -/
def JoinSays (P : Program) (f : FuncId) : Prop :=
  (∀ (a : Option Addr) (c : Nat) (sep : ByteArray) (w : World), Calls P f #[.slice a 0 c, .string sep] w fun e w' => e = .returned (.string ⟨#[]⟩) ∧ w' = w) ∧
  (∀ (bk o c : Nat) (xs : List ByteArray) (sep : ByteArray) (w : World), (∀ (j : Nat) x, xs[j]? = some x → w.cell? ⟨bk, o + j, none⟩ = some (.string x)) →
    bk < w.heap.size → xs.length ≤ 140737488355328 → xs.length ≤ c → (Lib.join (xs.map (·.data.toList)) sep.data.toList).length ≤ 140737488355328 →
    Calls P f #[.slice (some ⟨bk, o, none⟩) xs.length c, .string sep] w fun e w' => e = .returned (.string ⟨(Lib.join (xs.map (·.data.toList)) sep.data.toList).toArray⟩) ∧ Below w.heap.size w w')

theorem fcalls_calls {f : FuncId} {fn : Func} (hf : P.funcs[f]? = some fn) (hb : fn.body.isSome = true) (hname : (fn.name == "runtime.NumGoroutine") = false) {args : Array Value} {w : World} {R : Ending → World → Prop}
    (h : Calls P f args w R) : FCalls P f args w R := by
  obtain ⟨c, hb⟩ := Option.isSome_iff_exists.1 hb
  unfold FCalls
  have : (callFunc f args).run P w = .ok (.enter f args) w := by
    have hn' : ¬ fn.name = "runtime.NumGoroutine" := by simpa using hname
    unfold callFunc
    simp [hf, hb, hn']
  rw [this]
  exact h

theorem strsOf_ok {n : Nat} {L : Lay} {w : World} {rb ro : Nat} {cv : Nat → Value} : ∀ (xs : List AV) (ss : List (List UInt8)) (i : Nat), strsOf xs = some ss →
    (∀ j, j < xs.length → w.cell? ⟨rb, ro + (i + j), none⟩ = some (cv (i + j))) → (∀ (j : Nat) c, xs[j]? = some c → VR n L w c (cv (i + j))) →
    ∃ bs : List ByteArray, bs.map (·.data.toList) = ss ∧ bs.length = xs.length ∧ ∀ (j : Nat) x, bs[j]? = some x → w.cell? ⟨rb, ro + (i + j), none⟩ = some (.string x)
  | [], ss, i, h, _, _ => by
    cases h
    exact ⟨[], rfl, rfl, fun j x hj => by simp at hj⟩
  | .str s :: l, ss, i, h, hc, hv => by
    simp only [strsOf, Option.map_eq_some_iff] at h
    obtain ⟨t, ht, rfl⟩ := h
    obtain ⟨bs, h1, h2, h3⟩ := strsOf_ok l t (i + 1) ht (fun j hj => by
      have := hc (j + 1) (by simpa using hj)
      rw [show i + 1 + j = i + (j + 1) by omega]; exact this) (fun j c hj => by
      have := hv (j + 1) c (by simpa using hj)
      rw [show i + 1 + j = i + (j + 1) by omega]; exact this)
    have hc0 := hc 0 (by simp)
    have h0 := hv 0 (.str s) rfl
    simp only [Nat.add_zero] at hc0 h0
    cases hcv : cv i with
    | string b =>
      rw [hcv] at h0 hc0
      cases h0 with | str _ _ hb => ?_
      refine ⟨b :: bs, by simp [h1, hb], by simp [h2], fun j x hj => ?_⟩
      cases j with
      | zero => simp at hj; subst hj; exact hc0
      | succ j =>
        have := h3 j x (by simpa using hj)
        rw [show i + (j + 1) = i + 1 + j by omega]; exact this
    | _ => rw [hcv] at h0; cases h0

theorem flat_strs : ∀ {xs : List AV} {ss : List (List UInt8)}, strsOf xs = some ss → flat xs = xs
  | [], _, _ => rfl
  | .str s :: l, ss, h => by
    simp only [strsOf, Option.map_eq_some_iff] at h
    obtain ⟨t, ht, rfl⟩ := h
    simp [flat, AV.cells, flat_strs ht]

theorem extJoin_ok {f : FuncId} {fn : Func} (hf : P.funcs[f]? = some fn) (hb : fn.body.isSome = true) (hname : (fn.name == "runtime.NumGoroutine") = false) (hJ : JoinSays P f)
    (args : List AV) (v : AV) (hp : List Blk) (hv : extJoin args = some v) (B : Nat) (w0 : World) (L : Lay) (w : World) (rargs : List Value) (hI : Inv C.glob B w0 L w hp) (hA : CR hp.length L w args rargs) :
    FCalls P f rargs.toArray w (CallPost C B w0 L w hp.length v hp) := by
  refine fcalls_calls hf hb hname ?_
  unfold extJoin at hv
  split at hv
  · rename_i sep
    cases hv
    obtain ⟨hl, hA⟩ := hA
    obtain ⟨r0, r1, rfl⟩ : ∃ r0 r1, rargs = [r0, r1] := by
      match rargs, hl with
      | [a, b], _ => exact ⟨a, b, rfl⟩
    have h0 := hA 0 _ r0 rfl rfl
    have h1 := hA 1 _ r1 rfl rfl
    cases h0
    cases h1 with | str _ bs hs => ?_
    refine Calls.mono (hJ.1 none 0 bs w) fun e w' ⟨he, hw⟩ => ?_
    subst he hw
    exact grow_post hI (Below.refl _ _) (.str _ _ rfl)
  · rename_i own xs sep
    split at hv
    · rename_i ss hss
      simp only [cond_eq_ite] at hv
      split at hv
      · rename_i hc
        cases hv
        simp only [Bool.and_eq_true, decide_eq_true_eq] at hc
        obtain ⟨hl, hA⟩ := hA
        obtain ⟨r0, r1, rfl⟩ : ∃ r0 r1, rargs = [r0, r1] := by
          match rargs, hl with
          | [a, b], _ => exact ⟨a, b, rfl⟩
        have h0 := hA 0 _ r0 rfl rfl
        have h1 := hA 1 _ r1 rfl rfl
        cases h1 with | str _ bs hs => ?_
        cases h0 with | lit _ _ _ rb ro cap cv g1 g2 g3 g4 g5 g6 => ?_
        rw [flat_strs hss] at g5
        simp only [Nat.mul_one] at g3
        by_cases hne : xs = []
        · subst hne
          cases hss
          refine Calls.mono (hJ.1 _ cap bs w) fun e w' ⟨he, hw⟩ => ?_
          subst he hw
          exact grow_post hI (Below.refl _ _) (.str _ _ rfl)
        · have hrb : rb < w.heap.size := low (g3 0 (by cases xs with | nil => exact absurd rfl hne | cons _ _ => simp)).1
          obtain ⟨ys, k1, k2, k3⟩ := strsOf_ok (rb := rb) (ro := ro) (cv := cv) (n := hp.length) (L := L) (w := w) xs ss 0 hss (fun j hj => by rw [Nat.zero_add]; exact (g3 j hj).1) (fun j c hj => by rw [Nat.zero_add]; exact g5 j c hj)
          have e : Lib.join (ys.map (·.data.toList)) bs.data.toList = joinB sep ss := by rw [k1, hs, joinB_eq]
          have := hJ.2 rb ro cap ys bs w (fun j x hj => by have := k3 j x hj; rwa [Nat.zero_add] at this) hrb (by omega) (by omega) (by rw [e]; exact hc.2)
          rw [e, k2] at this
          refine Calls.mono this fun e' w' ⟨he, hw⟩ => ?_
          subst he
          exact grow_post hI hw (.str _ _ rfl)
      · cases hv
    · cases hv
  · cases hv
end Go.Proofs.YtkocimfdgdegfaaGreatDoor.E

namespace Go.Proofs.YtkocimfdgdegfaaGreatDoor.E
open Go Go.RowKit
variable {H : Type} {enc : TypeId × Value → H} {P : Program} {C : Cfg}

/-! ### arguments of plain data: what they look like, and that they stand for what the machine has -/

def sizeT (C : Cfg) (t : TypeId) : Nat := match C.ty t with | some ti => ti.size | none => 0

/-- what a value of plain data at a type looks like -/
def Sh (C : Cfg) : Nat → TypeId → AV → Prop
  | 0, _, _ => False
  | d + 1, t, x => match C.ty t with
    | some ⟨.bool, _, _, _, _⟩ => ∃ b, x = .bool b
    | some ⟨.int k, _, _, _, _⟩ => ∃ n, x = .int k n ∧ (Lit.int k n).wf = true
    | some ⟨.string, _, _, _, _⟩ => ∃ s, x = .str s ∧ s.length ≤ maxLen
    | some ⟨.slice e, _, _, _, _⟩ => x = .nilS ∨ ∃ xs, x = .lit (sizeT C e) .sealed xs ∧ xs.length ≤ maxLen ∧ ∀ y ∈ xs, Sh C d e y
    | some ⟨.struct fs, n, _, _, _⟩ => ∃ cs, x = .agg cs ∧ cs.length = n ∧ ∀ p ∈ fs, ∃ fi y, C.ty p.2 = some fi ∧ part fi cs p.1 = some y ∧ Sh C d p.2 y
    | some ⟨.array m e, n, _, _, _⟩ => ∃ cs, x = .agg cs ∧ cs.length = n ∧ ∀ i, i < m → ∃ ei y, C.ty e = some ei ∧ part ei cs (i * ei.size) = some y ∧ Sh C d e y
    | _ => False

/-- fields that lie one behind the other -/
def contig (C : Cfg) : Nat → List (Nat × TypeId) → Nat → Bool
  | o, [], n => o == n
  | o, (off, ft) :: fs, n => (off == o) && !(sizeT C ft == 0) && contig C (o + sizeT C ft) fs n

/-- is it a type of plain data? (slices: where they may stand) -/
def plainT (C : Cfg) : Bool → Nat → TypeId → Bool
  | _, 0, _ => false
  | sl, d + 1, t => match C.ty t with
    | some ⟨.bool, n, _, _, _⟩ => n == 1
    | some ⟨.int _, n, _, _, _⟩ => n == 1
    | some ⟨.string, n, _, _, _⟩ => n == 1
    | some ⟨.slice e, n, _, _, _⟩ => n == 1 && sl && !(sizeT C e == 0) && plainT C false d e
    | some ⟨.struct fs, n, _, _, _⟩ => contig C 0 fs n && fs.all fun p => plainT C sl d p.2
    | some ⟨.array m e, n, _, _, _⟩ => m * sizeT C e == n && !(sizeT C e == 0) && plainT C sl d e
    | _ => false

/-- cells that stand for cells -/
def Cel (w : World) (as : List AV) (vs : List Value) : Prop :=
  as.length = vs.length ∧ ∀ (j : Nat) c v, as[j]? = some c → vs[j]? = some v → c.one = true ∧ VR 0 (lay0 w) w c v

theorem Cel.nil {w : World} : Cel w [] [] := ⟨rfl, fun j c v h => by simp at h⟩
theorem Cel.one {w : World} {c : AV} {v : Value} (h1 : c.one = true) (h : VR 0 (lay0 w) w c v) : Cel w [c] [v] :=
  ⟨rfl, fun j c' v' hc hv => by
    cases j with
    | zero => simp at hc hv; subst hc hv; exact ⟨h1, h⟩
    | succ j => simp at hc⟩
theorem Cel.append {w : World} {a b : List AV} {c d : List Value} (h : Cel w a c) (k : Cel w b d) : Cel w (a ++ b) (c ++ d) :=
  ⟨by simp [h.1, k.1], fun j x v hx hv => by
    by_cases hj : j < a.length
    · rw [List.getElem?_append_left hj] at hx
      rw [List.getElem?_append_left (by rw [← h.1]; exact hj)] at hv
      exact h.2 j x v hx hv
    · rw [List.getElem?_append_right (by omega)] at hx
      rw [List.getElem?_append_right (by rw [← h.1]; omega), ← h.1] at hv
      exact k.2 _ x v hx hv⟩

/-- the slices that stand in cells begin at a cell -/
def Spots (vs : List Value) : Prop := ∀ v ∈ vs, ∀ a len cap, v = .slice (some a) len cap → a.spot = none

theorem tkOf_bool {d : TypeDesc} (h : TK.bool = tkOf d) : d = .bool := by cases d <;> simp [tkOf] at h ⊢
theorem tkOf_int {k : IntKind} {d : TypeDesc} (h : TK.int k = tkOf d) : d = .int k := by cases d <;> simp [tkOf] at h ⊢; exact h.symm
theorem tkOf_string {d : TypeDesc} (h : TK.string = tkOf d) : d = .string := by cases d <;> simp [tkOf] at h ⊢
theorem tkOf_slice {e : TypeId} {d : TypeDesc} (h : TK.slice e = tkOf d) : d = .slice e := by cases d <;> simp [tkOf] at h ⊢; exact h.symm
theorem tkOf_array {n : Nat} {e : TypeId} {d : TypeDesc} (h : TK.array n e = tkOf d) : d = .array n e := by cases d <;> simp [tkOf] at h ⊢; exact ⟨h.1.symm, h.2.symm⟩
theorem tkOf_struct {fs : List (Nat × TypeId)} {d : TypeDesc} (h : TK.struct fs = tkOf d) : ∃ gs, d = .struct gs ∧ fs = gs.toList.map fun f => (f.offset, f.type) := by
  cases d <;> simp [tkOf] at h
  exact ⟨_, rfl, h⟩

theorem size_cells (hT : TysOK P C) {t : TypeId} {ti : TI} (h : C.ty t = some ti) : P.cellsOf t = ti.size := by
  obtain ⟨i, d, z, h1, h2, h3, _⟩ := (hT t ti h).ex
  simp [Program.cellsOf, h1, h3]

/-- what an opened value's cells come to -/
def Fits (C : Cfg) (t : TypeId) (x : AV) : Prop := x.cells.length = sizeT C t ∧ ∀ ti, C.ty t = some ti → (ti.k.agg = true → ∃ c, x = .agg c) ∧ (ti.k.agg = false → x.one = true)

theorem Fits.part {t : TypeId} {x : AV} {ti : TI} (h : Fits C t x) (ht : C.ty t = some ti) (pre post : List AV) : E.part ti (pre ++ (x.cells ++ post)) pre.length = some x := by
  obtain ⟨h1, h2⟩ := h
  obtain ⟨h3, h4⟩ := h2 ti ht
  have hs : sizeT C t = ti.size := by simp [sizeT, ht]
  unfold E.part
  cases ha : ti.k.agg with
  | true =>
    obtain ⟨c, rfl⟩ := h3 ha
    simp only [AV.cells] at h1 ⊢
    rw [hs] at h1
    simp [h1.symm, cond_true rfl]
  | false =>
    have h5 := h4 ha
    rw [AV.cells_one h5, cond_false rfl, getAt_eq]
    simp

theorem contig_fields (hT : TysOK P C) {w : World} {d : Nat} {sl : Bool} : ∀ (fs : List (Nat × TypeId)) (o n : Nat) (cs : List Value), contig C o fs n = true → cs.length = n →
    (∀ p ∈ fs, ∃ x, Sh C d p.2 x ∧ Fits C p.2 x ∧ Cel w x.cells ((cs.drop p.1).take (sizeT C p.2))) →
    ∃ xs : List AV, Cel w xs (cs.drop o) ∧ ∀ (pre : List AV), pre.length = o → ∀ p ∈ fs, ∃ fi y, C.ty p.2 = some fi ∧ part fi (pre ++ xs) p.1 = some y ∧ Sh C d p.2 y
  | [], o, n, cs, hc, hl, _ => by
    simp only [contig, beq_iff_eq] at hc
    refine ⟨[], ?_, fun pre hp p h => by simp at h⟩
    rw [List.drop_eq_nil_of_le (by omega)]
    exact .nil
  | (off, ft) :: fs, o, n, cs, hc, hl, hf => by
    simp only [contig, Bool.and_eq_true, beq_iff_eq, Bool.not_eq_true', beq_eq_false_iff_ne, ne_eq] at hc
    obtain ⟨⟨rfl, h0⟩, hc⟩ := hc
    obtain ⟨x, h1, h2, h3⟩ := hf (off, ft) (by simp)
    obtain ⟨xs, k1, k2⟩ := contig_fields hT (sl := sl) fs (off + sizeT C ft) n cs hc hl fun p hp => hf p (by simp [hp])
    obtain ⟨fi, hfi⟩ : ∃ fi, C.ty ft = some fi := by
      cases hq : C.ty ft with
      | none => exact absurd (by simp [sizeT, hq]) h0
      | some fi => exact ⟨fi, rfl⟩
    refine ⟨x.cells ++ xs, ?_, fun pre hp p hpm => ?_⟩
    · have := h3.append k1
      rw [← List.drop_drop] at this
      rwa [List.take_append_drop] at this
    · rcases List.mem_cons.1 hpm with rfl | hpm
      · refine ⟨fi, x, hfi, ?_, h1⟩
        rw [← hp]
        exact h2.part hfi pre xs
      · have := k2 (pre ++ x.cells) (by rw [List.length_append, hp, h2.1]) p hpm
        rwa [List.append_assoc] at this

theorem contig_range {C : Cfg} {e : TypeId} (h0 : sizeT C e ≠ 0) : ∀ (m k : Nat), contig C (k * sizeT C e) ((List.range' k m).map fun i => (i * sizeT C e, e)) ((k + m) * sizeT C e) = true
  | 0, k => by simp [contig]
  | m + 1, k => by
    have ih := contig_range h0 m (k + 1)
    have e1 : k * sizeT C e + sizeT C e = (k + 1) * sizeT C e := by rw [Nat.add_mul, Nat.one_mul]
    have e2 : (k + (m + 1)) = (k + 1 + m) := by omega
    simp only [List.range'_succ, List.map_cons, contig, beq_self_eq_true, Bool.true_and, e1, e2, ih, Bool.and_true]
    simpa using h0

theorem spots_sub {vs : List Value} (h : Spots vs) (a b : Nat) : Spots ((vs.drop a).take b) := fun v hv => h v (List.mem_of_mem_drop (List.mem_of_mem_take hv))

theorem cells_get {w : World} {base : Nat} {a : Addr} {n : Nat} {cs : List Value} (h : w.cells? base a n = some cs) : cs.length = n ∧ ∀ j v, cs[j]? = some v → w.cell? (a.add j) = some v := by
  unfold World.cells? at h
  split at h
  · have key : ∀ (l : List Nat) (cs : List Value), (l.mapM fun i => w.cell? (a.add i)) = some cs → cs.length = l.length ∧ ∀ (j : Nat) v, cs[j]? = some v → ∃ i, l[j]? = some i ∧ w.cell? (a.add i) = some v := by
      intro l
      induction l with
      | nil => intro cs h; simp at h; subst h; simp
      | cons i l ih =>
        intro cs h
        simp only [List.mapM_cons, Option.bind_eq_bind, Option.pure_def, Option.bind_eq_some_iff, Option.some.injEq] at h
        obtain ⟨v, hv, vs, hvs, rfl⟩ := h
        obtain ⟨g1, g2⟩ := ih vs hvs
        refine ⟨by simp [g1], fun j u hu => ?_⟩
        cases j with
        | zero => simp at hu; subst hu; exact ⟨i, rfl, hv⟩
        | succ j => simpa using g2 j u (by simpa using hu)
    obtain ⟨g1, g2⟩ := key _ _ h
    refine ⟨by simpa using g1, fun j v hv => ?_⟩
    obtain ⟨i, hi, hc⟩ := g2 j v hv
    have hlt := (List.getElem?_eq_some_iff.1 hi).1
    simp at hlt
    rw [List.getElem?_range hlt] at hi
    cases hi
    exact hc
  · cases h

/-- cells that are read as plain data at a type -/
theorem open_ok (hT : TysOK P C) {w : World} {sp : Nat → Bool} {held : Bool} : ∀ (d : Nat) (sl : Bool) (fuel : Nat) (t : TypeId) (cs : List Value) (x : DataW H × List MemPlace), plainT C sl d t = true →
    DataW.trod enc P w 0 sp held fuel t cs = some x → (sl = true → Spots cs) → ∃ y, Sh C d t y ∧ Fits C t y ∧ Cel w y.cells cs
  | 0, sl, fuel, t, cs, x, hp, _, _ => by cases hp
  | d + 1, sl, fuel, t, cs, x, hp, h, hs => by
    cases hti : C.ty t with
    | none => simp [plainT, hti] at hp
    | some ti =>
      obtain ⟨i, dd, z, g1, g2, g3, g4, g5, -⟩ := (hT t ti hti).ex
      obtain ⟨k, n, by_, zz, q⟩ := ti
      have hsz : sizeT C t = n := by simp [sizeT, hti]
      have hcl : P.cellsOf t = n := size_cells hT hti
      dsimp only at g5
      cases k with
      | bool =>
        simp only [plainT, hti, beq_iff_eq] at hp
        subst hp
        rw [tkOf_bool g5] at g2
        obtain ⟨b, rfl, -⟩ := DataW.trod_bool g2 h
        exact ⟨.bool b, by simp only [Sh, hti]; exact ⟨b, rfl⟩, ⟨by rw [hsz]; rfl, fun ti hq => by rw [hti] at hq; cases hq; exact ⟨(fun h => by cases h), fun _ => rfl⟩⟩, .one rfl (.bool b)⟩
      | int k =>
        simp only [plainT, hti, beq_iff_eq] at hp
        subst hp
        rw [tkOf_int g5] at g2
        obtain ⟨m, rfl, -, hwf⟩ := DataW.trod_int g2 h
        exact ⟨.int k m, by simp only [Sh, hti]; exact ⟨m, rfl, hwf⟩, ⟨by rw [hsz]; rfl, fun ti hq => by rw [hti] at hq; cases hq; exact ⟨(fun h => by cases h), fun _ => rfl⟩⟩, .one rfl (.int k m)⟩
      | string =>
        simp only [plainT, hti, beq_iff_eq] at hp
        subst hp
        rw [tkOf_string g5] at g2
        obtain ⟨s, rfl, -, hwf⟩ := DataW.trod_string g2 h
        refine ⟨.str s.data.toList, by simp only [Sh, hti]; exact ⟨_, rfl, by simpa using hwf⟩, ⟨by rw [hsz]; rfl, fun ti hq => by rw [hti] at hq; cases hq; exact ⟨(fun h => by cases h), fun _ => rfl⟩⟩, .one rfl (.str _ s rfl)⟩
      | slice e =>
        simp only [plainT, hti, Bool.and_eq_true, beq_iff_eq, Bool.not_eq_true', beq_eq_false_iff_ne, ne_eq] at hp
        obtain ⟨⟨⟨rfl, hsl⟩, he0⟩, hpe⟩ := hp
        rw [tkOf_slice g5] at g2
        obtain ⟨ei, hei⟩ : ∃ ei, C.ty e = some ei := by
          cases hq : C.ty e with
          | none => exact absurd (by simp [sizeT, hq]) he0
          | some ei => exact ⟨ei, rfl⟩
        have hes : P.cellsOf e = sizeT C e := by rw [size_cells hT hei]; simp [sizeT, hei]
        rcases DataW.trod_slice g2 h with ⟨rfl, -⟩ | ⟨a, len, cap, elems, rest, m, -, rfl, -, hb, hlc, hcm, hel, hE, -, -⟩
        · exact ⟨.nilS, by simp only [Sh, hti]; exact .inl trivial, ⟨by rw [hsz]; rfl, fun ti hq => by rw [hti] at hq; cases hq; exact ⟨(fun h => by cases h), fun _ => rfl⟩⟩, .one rfl .nilS⟩
        · have hspot : a.spot = none := hs hsl _ (by simp) a len cap rfl
          obtain ⟨rb, ro, spot⟩ := a
          dsimp only at hspot
          subst hspot
          have hadd : ∀ o k, (⟨rb, o, none⟩ : Addr).add k = ⟨rb, o + k, none⟩ := fun o k => by
            unfold Addr.add; split
            · rename_i hk; subst hk; rfl
            · rfl
          have each : ∀ i, i < len → ∃ y, Sh C d e y ∧ Fits C e y ∧ ∀ (j : Nat) c, y.cells[j]? = some c → c.one = true ∧ ∃ v, w.cell? ⟨rb, ro + (i * sizeT C e + j), none⟩ = some v ∧ VR 0 (lay0 w) w c v := fun i hi => by
            have h1 := hE i hi
            have h2 : ∃ u, elems[i]? = some u := ⟨_, List.getElem?_eq_getElem (by omega)⟩
            obtain ⟨u, hu⟩ := h2
            rw [hu, Option.bind_eq_some_iff] at h1
            obtain ⟨cs, hc1, hc2⟩ := h1
            obtain ⟨y, y1, y2, y3⟩ := open_ok hT d false m e cs u hpe hc2 (fun h => by cases h)
            obtain ⟨q1, q2⟩ := cells_get hc1
            refine ⟨y, y1, y2, fun j c hj => ?_⟩
            have hlt := (List.getElem?_eq_some_iff.1 hj).1
            obtain ⟨v, hv⟩ : ∃ v, cs[j]? = some v := ⟨_, List.getElem?_eq_getElem (by rw [← y3.1]; exact hlt)⟩
            obtain ⟨r1, r2⟩ := y3.2 j c v hj hv
            have := q2 j v hv
            rw [hadd, hes] at this
            rw [hadd] at this
            exact ⟨r1, v, by rw [← Nat.add_assoc]; exact this, r2⟩
          obtain ⟨ys, l1, l2⟩ : ∃ ys : List AV, ys.length = len ∧ ∀ (i : Nat) y, ys[i]? = some y → Sh C d e y ∧ Fits C e y ∧ ∀ (j : Nat) c, y.cells[j]? = some c → c.one = true ∧ ∃ v, w.cell? ⟨rb, ro + (i * sizeT C e + j), none⟩ = some v ∧ VR 0 (lay0 w) w c v := by
            have := fun i : Fin len => each i.1 i.2
            refine ⟨List.ofFn fun i : Fin len => (this i).choose, by simp, fun i y hy => ?_⟩
            have hlt := (List.getElem?_eq_some_iff.1 hy).1
            simp at hlt
            rw [List.getElem?_ofFn, dif_pos hlt] at hy
            cases hy
            exact (this ⟨i, hlt⟩).choose_spec
          have hsizes : ∀ y ∈ ys, y.cells.length = sizeT C e := fun y hy => by
            obtain ⟨i, hi⟩ := List.getElem?_of_mem hy
            exact (l2 i y hi).2.1.1
          have fl : ∀ (j : Nat) c, (flat ys)[j]? = some c → c.one = true ∧ ∃ v, w.cell? ⟨rb, ro + j, none⟩ = some v ∧ VR 0 (lay0 w) w c v := fun j c hj => by
            have hlt := (List.getElem?_eq_some_iff.1 hj).1
            rw [flat_length ys hsizes] at hlt
            have hdiv : j / sizeT C e < ys.length := Nat.div_lt_of_lt_mul (by rw [Nat.mul_comm]; exact hlt)
            obtain ⟨y, hy⟩ : ∃ y, ys[j / sizeT C e]? = some y := ⟨_, List.getElem?_eq_getElem hdiv⟩
            have hmod := Nat.mod_lt j (Nat.pos_of_ne_zero he0)
            have hg := flat_get ys hsizes _ y hy (j % sizeT C e) hmod
            have e1 : j / sizeT C e * sizeT C e + j % sizeT C e = j := Nat.div_add_mod' _ _
            rw [e1, hj] at hg
            have := (l2 _ y hy).2.2 _ c hg.symm
            rwa [e1] at this
          refine ⟨.lit (sizeT C e) .sealed ys, by simp only [Sh, hti]; exact .inr ⟨ys, rfl, by omega, fun y hy => by
            obtain ⟨i, hi⟩ := List.getElem?_of_mem hy
            exact (l2 i y hi).1⟩, ⟨by rw [hsz]; rfl, fun ti hq => by rw [hti] at hq; cases hq; exact ⟨(fun h => by cases h), fun _ => rfl⟩⟩, .one rfl ?_⟩
          have := VR.lit (n := 0) (L := lay0 w) (w := w) (sizeT C e) .sealed ys rb ro cap (fun j => (w.cell? ⟨rb, ro + j, none⟩).getD default) (by omega) hsizes (fun j hj => by
              obtain ⟨c, hc⟩ : ∃ c, (flat ys)[j]? = some c := ⟨_, List.getElem?_eq_getElem (by rw [flat_length ys hsizes]; exact hj)⟩
              obtain ⟨_, v, hv, _⟩ := fl j c hc
              exact ⟨by rw [hv]; rfl, imm0 hv⟩) (fun j c hc => (fl j c hc).1) (fun j c hc => by
              obtain ⟨_, v, hv, hr⟩ := fl j c hc
              rw [hv]; exact hr) trivial
          rw [l1] at this
          exact this
      | struct fs =>
        simp only [plainT, hti, Bool.and_eq_true, List.all_eq_true] at hp
        obtain ⟨hc, hf⟩ := hp
        obtain ⟨gs, hgs, hfs⟩ := tkOf_struct g5
        rw [hgs] at g2
        obtain ⟨xs, m, -, -, hlen, hxl, hx⟩ := DataW.trod_struct g2 h
        rw [hcl] at hlen
        obtain ⟨ys, k1, k2⟩ := contig_fields hT (w := w) (d := d) (sl := sl) fs 0 n cs hc hlen fun p hp => by
          rw [hfs] at hp
          obtain ⟨f, hfm, rfl⟩ := List.mem_map.1 hp
          obtain ⟨i, hi⟩ := List.getElem?_of_mem hfm
          have hi' : gs[i]? = some f := by simpa using hi
          have h1 := hx i f hi'
          obtain ⟨u, hu⟩ : ∃ u, xs[i]? = some u := ⟨_, List.getElem?_eq_getElem (by rw [hxl]; exact (Array.getElem?_eq_some_iff.1 hi').1)⟩
          rw [hu] at h1
          have hpt := hf (f.offset, f.type) (by rw [hfs]; exact List.mem_map.2 ⟨f, hfm, rfl⟩)
          have hce : P.cellsOf f.type = sizeT C f.type := by
            cases hq : C.ty f.type with
            | none =>
              exfalso
              cases d with
              | zero => cases hpt
              | succ d => simp [plainT, hq] at hpt
            | some fi => rw [size_cells hT hq]; simp [sizeT, hq]
          rw [hce] at h1
          exact open_ok hT d sl m f.type _ u hpt h1 (fun h => spots_sub (hs h) _ _)
        rw [List.drop_zero] at k1
        refine ⟨.agg ys, by simp only [Sh, hti]; exact ⟨ys, rfl, by rw [k1.1, hlen], fun p hp => k2 [] rfl p hp⟩, ⟨by rw [hsz]; show ys.length = n; rw [k1.1, hlen], fun ti hq => by rw [hti] at hq; cases hq; exact ⟨fun _ => ⟨ys, rfl⟩, (fun h => by cases h)⟩⟩, k1⟩
      | array m e =>
        simp only [plainT, hti, Bool.and_eq_true, beq_iff_eq, Bool.not_eq_true', beq_eq_false_iff_ne, ne_eq] at hp
        obtain ⟨⟨hn, he0⟩, hpe⟩ := hp
        rw [tkOf_array g5] at g2
        obtain ⟨ei, hei⟩ : ∃ ei, C.ty e = some ei := by
          cases hq : C.ty e with
          | none => exact absurd (by simp [sizeT, hq]) he0
          | some ei => exact ⟨ei, rfl⟩
        have hse : sizeT C e = ei.size := by simp [sizeT, hei]
        have hes : P.cellsOf e = sizeT C e := by rw [size_cells hT hei, hse]
        obtain ⟨xs, m', -, -, hlen, hxl, hx⟩ := DataW.trod_array g2 h
        rw [hcl] at hlen
        obtain ⟨ys, k1, k2⟩ := contig_fields hT (w := w) (d := d) (sl := sl) ((List.range' 0 m).map fun i => (i * sizeT C e, e)) 0 n cs (by have := contig_range (C := C) he0 m 0; rw [Nat.zero_mul, Nat.zero_add, hn] at this; exact this) hlen fun p hp => by
          obtain ⟨i, hi, rfl⟩ := List.mem_map.1 hp
          have hi : i < m := by simpa using (List.mem_range'_1.1 hi).2
          have h1 := hx i hi
          obtain ⟨u, hu⟩ : ∃ u, xs[i]? = some u := ⟨_, List.getElem?_eq_getElem (by rw [hxl]; exact hi)⟩
          rw [hu, hes] at h1
          exact open_ok hT d sl m' e _ u hpe h1 (fun h => spots_sub (hs h) _ _)
        rw [List.drop_zero] at k1
        refine ⟨.agg ys, by
          simp only [Sh, hti]
          refine ⟨ys, rfl, by rw [k1.1, hlen], fun i hi => ?_⟩
          obtain ⟨fi, y, q1, q2, q3⟩ := k2 [] rfl (i * sizeT C e, e) (List.mem_map.2 ⟨i, List.mem_range'_1.2 ⟨by omega, by omega⟩, rfl⟩)
          rw [hei] at q1
          cases q1
          exact ⟨ei, y, hei, by rw [← hse]; exact q2, q3⟩, ⟨by rw [hsz]; show ys.length = n; rw [k1.1, hlen], fun ti hq => by rw [hti] at hq; cases hq; exact ⟨fun _ => ⟨ys, rfl⟩, (fun h => by cases h)⟩⟩, k1⟩
      | _ => simp [plainT, hti] at hp

theorem spot_of {w : World} {r : Reach} {b : Nat} {u : TypeId} {a : Addr} {len cap : Nat} (hu : Cell.okWide P w r b u (.slice (some a) len cap)) : a.spot = none := by
  unfold Cell.okWide Cell.ok at hu
  cases hq : P.underlying u with
  | none => rw [hq] at hu; exact hu.elim
  | some dd =>
    rw [hq] at hu
    cases dd <;> first
      | exact hu.elim
      | exact hu.2.2.2.1

theorem spots_of_cells {w : World} {r : Reach} {b : Nat} {vs : List Value} (h : ∀ v ∈ vs, ∃ u, Cell.okWide P w r b u v) : Spots vs := fun v hv a len cap e => by
  obtain ⟨u, hu⟩ := h v hv
  subst e
  exact spot_of hu

theorem no_agg {w : World} {r : Reach} {b : Nat} {u : TypeId} {cs : Array Value} (hu : Cell.okWide P w r b u (.agg cs)) : False := by
  unfold Cell.okWide Cell.ok at hu
  cases hq : P.underlying u with
  | none => rw [hq] at hu; exact hu.elim
  | some dd =>
    rw [hq] at hu
    cases dd <;> exact hu.elim

/-- an argument's cells -/
theorem arg_cells {w : World} {r : Reach} {b : Nat} {t : TypeId} {v : Value} {dd : TypeDesc} (hd : P.underlying t = some dd) (hval : Value.okWide P w r b t v) :
    Spots v.cells.toList ∧ (((tkOf dd).agg = true ∧ ∃ cs, v = .agg cs) ∨ ((tkOf dd).agg = false ∧ v.cells.toList = [v])) := by
  have row : ∀ cs : Array Value, Row.okWide P w r b t cs → Spots cs.toList := fun cs hc => by
    obtain ⟨ts, _, _, hc⟩ := hc
    refine spots_of_cells (P := P) (w := w) (r := r) (b := b) fun v hv => ?_
    obtain ⟨i, hi⟩ := List.getElem?_of_mem hv
    obtain ⟨u, _, hu⟩ := hc i v (by simpa using hi)
    exact ⟨u, hu⟩
  have cell : Cell.okWide P w r b t v → Spots v.cells.toList ∧ v.cells.toList = [v] := fun hu => by
    have : v.cells.toList = [v] := by
      cases v <;> first | rfl | exact (no_agg hu).elim
    rw [this]
    exact ⟨spots_of_cells (P := P) (w := w) (r := r) (b := b) fun u hq => by simp at hq; subst hq; exact ⟨t, hu⟩, rfl⟩
  unfold Value.okWide at hval
  rw [hd] at hval
  cases dd <;> first
    | (obtain ⟨cs, rfl, _, hc⟩ := hval; exact ⟨row cs hc, .inl ⟨rfl, cs, rfl⟩⟩)
    | (obtain ⟨h1, h2⟩ := cell hval; exact ⟨h1, .inr ⟨rfl, h2⟩⟩)

/-- an argument of plain data -/
theorem open_arg (hT : TysOK P C) {w : World} {sp : Nat → Bool} {held : Bool} {r : Reach} {b : Nat} {t : TypeId} {v : Value} {dd : DataW H} {ps : List MemPlace} (d : Nat) (hp : plainT C true d t = true)
    (hval : Value.okWide P w r b t v) (h : DataW.Trod enc P w 0 sp held t v dd ps) : ∃ y, Sh C d t y ∧ VR 0 (lay0 w) w y v := by
  obtain ⟨fuel, h⟩ := h
  obtain ⟨ti, hti⟩ : ∃ ti, C.ty t = some ti := by
    cases hq : C.ty t with
    | none => cases d with
      | zero => cases hp
      | succ d => simp [plainT, hq] at hp
    | some ti => exact ⟨ti, rfl⟩
  obtain ⟨i, dx, z, g1, g2, g3, g4, g5, -⟩ := (hT t ti hti).ex
  obtain ⟨hsp, hag⟩ := arg_cells g2 hval
  obtain ⟨y, y1, y2, y3⟩ := open_ok hT d true fuel t _ _ hp h (fun _ => hsp)
  refine ⟨y, y1, ?_⟩
  obtain ⟨q1, q2⟩ := y2.2 ti hti
  rcases hag with ⟨ha, cs, rfl⟩ | ⟨ha, hv⟩
  · obtain ⟨c, rfl⟩ := q1 (by rw [g5]; exact ha)
    have e1 : (Value.agg cs).cells.toList = cs.toList := rfl
    have e2 : (AV.agg c).cells = c := rfl
    rw [e1, e2] at y3
    have hl : cs.size = c.length := by simpa using y3.1.symm
    have get : ∀ (j : Nat) x, c[j]? = some x → cs.toList[j]? = some (cs.getD j default) := fun j x hj => by
      have hlt := (List.getElem?_eq_some_iff.1 hj).1
      rw [← hl] at hlt
      simp [Array.getD, hlt]
    exact .agg c cs hl (fun j x hj => (y3.2 j x _ hj (get j x hj)).1) (fun j x hj => (y3.2 j x _ hj (get j x hj)).2)
  · have h1 := q2 (by rw [g5]; exact ha)
    rw [AV.cells_one h1, hv] at y3
    exact (y3.2 0 y v rfl rfl).2
end Go.Proofs.YtkocimfdgdegfaaGreatDoor.E

namespace Go.Proofs.YtkocimfdgdegfaaGreatDoor.E
open Go Go.RowKit

/-- a package's error that its initialiser lays -/
theorem sentinel_vr {w : World} {g tp : Nat} {a : Addr} {s : ByteArray} {text : List UInt8} (h1 : w.cell? ⟨g, 0, none⟩ = some (.iface tp (.pointer (some a)))) (h2 : w.cell? a = some (.string s)) (hs : s.data.toList = text) :
    VR 0 (lay0 w) w (.rop (.iface tp (.rop (.agg [.str text])))) (.pointer (some ⟨g, 0, none⟩)) := by
  have hspot := World.cell?_spot h2
  obtain ⟨b, o, spot⟩ := a
  dsimp only at hspot
  subst hspot
  have inner : VR 0 (lay0 w) w (.rop (.agg [.str text])) (.pointer (some ⟨b, o, none⟩)) := by
    refine .rop _ b o (fun _ => .string s) (fun j hj => ?_) (fun j c hc => ?_) (fun j c hc => ?_)
    · have : j = 0 := by simp [AV.cells] at hj; exact hj
      subst this
      exact ⟨h2, imm0 h2⟩
    · cases j with
      | zero => simp [AV.cells] at hc; subst hc; rfl
      | succ j => simp [AV.cells] at hc
    · cases j with
      | zero => simp [AV.cells] at hc; subst hc; exact .str _ s hs
      | succ j => simp [AV.cells] at hc
  refine .rop _ g 0 (fun _ => .iface tp (.pointer (some ⟨b, o, none⟩))) (fun j hj => ?_) (fun j c hc => ?_) (fun j c hc => ?_)
  · have : j = 0 := by simp [AV.cells] at hj; exact hj
    subst this
    exact ⟨h1, imm0 h1⟩
  · cases j with
    | zero => simp [AV.cells] at hc; subst hc; rfl
    | succ j => simp [AV.cells] at hc
  · cases j with
    | zero => simp [AV.cells] at hc; subst hc; exact .iface _ _ _ inner
    | succ j => simp [AV.cells] at hc

theorem pure_hp {C : Cfg} {k fl : Nat} {f : Go.FuncId} {args : List AV} {hp hp' : List Blk} {v : AV} (he : C.ext f = none) (hk : C.kind f = .pure) (h : evCall C (k + 1) fl f args hp = some (v, hp')) : hp' = hp := by
  unfold evCall at h
  simp only [he, hk] at h
  cases hc : C.code f with
  | none => rw [hc] at h; cases h
  | some fi =>
    rw [hc] at h
    dsimp only at h
    generalize run C _ _ _ _ _ _ = R at h
    match R, h with
    | none, h => cases h
    | some (.exit _, _), h => cases h
    | some (.normal, st), h =>
      dsimp only at h
      generalize resultsE C st _ = rs at h
      cases rs with
      | none => cases h
      | some rs =>
        dsimp only at h
        generalize shutV _ _ _ _ = s at h
        cases s with
        | none => cases h
        | some s => simp only [Option.some.injEq, Prod.mk.injEq] at h; exact h.2.symm
    | some (.ret, st), h =>
      dsimp only at h
      generalize resultsE C st _ = rs at h
      cases rs with
      | none => cases h
      | some rs =>
        dsimp only at h
        generalize shutV _ _ _ _ = s at h
        cases s with
        | none => cases h
        | some s => simp only [Option.some.injEq, Prod.mk.injEq] at h; exact h.2.symm
end Go.Proofs.YtkocimfdgdegfaaGreatDoor.E

namespace Go.Proofs.YtkocimfdgdegfaaGreatDoor.E
open Go Go.RowKit Go.Lib
variable {P : Program} {C : Cfg}

/-! strings.Contains -/
def extCt : List AV → Option AV
  | [.str s, .str sub] => bif decide (s.length < 4294967281) then some (.bool (Lib.contains s sub)) else none
  | _ => none

/-- what strings.Contains' contract says, where a package's number lies in a variable -/
def ContainsSays (P : Program) (f : FuncId) (g : Nat) : Prop :=
  ∀ (s sub : ByteArray) (m : Int) (w : World), s.size < 4294967281 → w.cell? ⟨g, 0, none⟩ = some (.int .i64 m) →
    Calls P f #[.string s, .string sub] w fun e w' => e = .returned (.bool (Lib.contains s.data.toList sub.data.toList)) ∧ w' = w

theorem int_vr {w : World} {g : Nat} {m : Int} (h : w.cell? ⟨g, 0, none⟩ = some (.int .i64 m)) : VR 0 (lay0 w) w (.rop (.int .i64 m)) (.pointer (some ⟨g, 0, none⟩)) := by
  refine .rop _ g 0 (fun _ => .int .i64 m) (fun j hj => ?_) (fun j c hc => ?_) (fun j c hc => ?_)
  · have : j = 0 := by simp [AV.cells] at hj; exact hj
    subst this
    exact ⟨h, imm0 h⟩
  · cases j with
    | zero => simp [AV.cells] at hc; subst hc; rfl
    | succ j => simp [AV.cells] at hc
  · cases j with
    | zero => simp [AV.cells] at hc; subst hc; exact .int _ _
    | succ j => simp [AV.cells] at hc

theorem extCt_ok {f : FuncId} {fn : Func} {g : Nat} {m : Int} (hf : P.funcs[f]? = some fn) (hb : fn.body.isSome = true) (hname : (fn.name == "runtime.NumGoroutine") = false) (hS : ContainsSays P f g) (hg : C.glob g = some (.int .i64 m))
    (args : List AV) (v : AV) (hp : List Blk) (hv : extCt args = some v) (B : Nat) (w0 : World) (L : Lay) (w : World) (rargs : List Value) (hI : Inv C.glob B w0 L w hp) (hA : CR hp.length L w args rargs) :
    FCalls P f rargs.toArray w (CallPost C B w0 L w hp.length v hp) := by
  refine fcalls_calls hf hb hname ?_
  unfold extCt at hv
  split at hv
  · rename_i s sub
    simp only [cond_eq_ite] at hv
    split at hv
    · rename_i hc
      cases hv
      simp only [decide_eq_true_eq] at hc
      obtain ⟨hl, hA⟩ := hA
      obtain ⟨r0, r1, rfl⟩ : ∃ r0 r1, rargs = [r0, r1] := by
        match rargs, hl with
        | [a, b], _ => exact ⟨a, b, rfl⟩
      have h0 := hA 0 _ r0 rfl rfl
      have h1 := hA 1 _ r1 rfl rfl
      cases h0 with | str _ bs hs => ?_
      cases h1 with | str _ bt ht => ?_
      have hm : w.cell? ⟨g, 0, none⟩ = some (.int .i64 m) := by
        have := hI.globs g _ hg
        cases this with
        | rop _ _ _ cv k1 k2 k3 =>
          have e1 := (k1 0 (by simp [AV.cells])).1
          have e2 := k3 0 (.int .i64 m) rfl
          cases hq : cv 0 with
          | int k i => rw [hq] at e1 e2; cases e2; exact e1
          | _ => rw [hq] at e2; cases e2
      have hsz : bs.size < 4294967281 := by
        have : bs.size = s.length := by rw [← hs]; simp
        omega
      refine Calls.mono (hS bs bt m w hsz hm) fun e w' ⟨he, hw⟩ => ?_
      subst he hw
      refine grow_post hI (Below.refl _ _) ?_
      rw [hs, ht]
      exact .bool _
    · cases hv
  · cases hv
end Go.Proofs.YtkocimfdgdegfaaGreatDoor.E
