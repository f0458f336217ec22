/- Steps of the seat's proofs: an evaluator of the program's code, its soundness, and what the functions come to. -/
import Derived.Test.YtanopbolgfcojaaGreatDoorEab
import Derived.LoopN
import Derived.Lib.Bytealg
import Derived.Lib.Join
import Derived.Laws.Externs
import Derived.ChangeArms
import Derived.OpenShut
import Derived.WideShapes
import Derived.Lib.IndexMore
set_option linter.unusedSimpArgs false
set_option linter.unusedVariables false
namespace Go.Proofs.YtanopbolgfcojaaGreatDoor.E
open Go Go.RowKit Go.Lib
section
variable {P : Program} {C : Cfg} {call : CallF} {fl : Nat} {me : FuncId} {ops : Array Oper}

/-- an operation or its omission -/
def evSel (C : Cfg) (call : CallF) (fl : Nat) (me : FuncId) (ops : Array Oper) (o : Oper) (st : St) : Option Res :=
  match wantedE ops.toList st.tmps o with
  | some true => evOp C call fl me o st
  | some false => some ⟨.sk, st.tmps, st.hp, .z⟩
  | none => none

theorem evOne_sel {o : Oper} {st st' : St} {f : Fp} : evOne C call fl me ops.toList o st = some (st', f) ↔
    ∃ r t, evSel C call fl me ops o st = some r ∧ put r.tmps o.dst r.val = some t ∧ st' = ⟨t, r.hp⟩ ∧ f = r.fp := by
  unfold evOne evSel
  constructor
  · intro h
    split at h
    · split at h
      · rename_i r hr
        split at h
        · rename_i t ht; cases h; exact ⟨r, t, by simp only [*], ht, rfl, rfl⟩
        · cases h
      · cases h
    · split at h
      · rename_i t ht; cases h; exact ⟨⟨.sk, st.tmps, st.hp, .z⟩, t, by simp only [*], ht, rfl, rfl⟩
      · cases h
    · cases h
  · rintro ⟨r, t, hr, ht, rfl, rfl⟩
    split at hr
    · simp only [*]
    · cases hr; dsimp only at ht ⊢; simp only [*]
    · cases hr

def view (ts : List TV) (t : Nat) : Option TV :=
  match getAt ts t with
  | some (.bx _) => some (.lp t 0)
  | x => x

def SameV (l : List Tmp) (ts ts' : List TV) : Prop := ∀ t ∈ l, view ts' t = view ts t

theorem opnd_tmp (ts : List TV) (t : Nat) : opnd C ts (.tmp t) = match view ts t with | some x => some x | none => some .sk := by
  unfold view
  simp only [opnd]
  cases getAt ts t with
  | none => rfl
  | some x => cases x <;> rfl

theorem opnd_view {ts ts' : List TV} {x : Operand} (h : ∀ t, x = .tmp t → view ts' t = view ts t) : opnd C ts' x = opnd C ts x := by
  cases x with
  | tmp t => rw [opnd_tmp, opnd_tmp, h t rfl]
  | _ => rfl

theorem wanted_view {o : Oper} {ts ts' : List TV} (h : ∀ j want g d, o.guard = some (j, want) → ops[j]? = some g → g.dst = some d → view ts' d = view ts d) :
    wantedE ops.toList ts' o = wantedE ops.toList ts o := by
  unfold wantedE
  cases hg : o.guard with
  | none => rfl
  | some p =>
    obtain ⟨j, want⟩ := p
    simp only [getAt_eq, Array.getElem?_toList]
    cases ho : ops[j]? with
    | none => rfl
    | some g =>
      cases hd : g.dst with
      | none => simp only [hd]
      | some d =>
        simp only [hd]
        have hv := h j want g d hg ho hd
        unfold view at hv
        rw [getAt_eq, getAt_eq] at hv
        generalize ts'[d]? = a at hv ⊢
        generalize ts[d]? = b at hv ⊢
        rcases a with _ | a <;> rcases b with _ | b <;> (try cases a) <;> (try cases b) <;> first
          | rfl
          | (cases hv; rfl)
          | (cases hv; done)

theorem looks_opnd {o : Oper} {ts ts' : List TV} (h : SameV (o.looksAt ops) ts ts') : SameOn C o ts ts' := fun x hx => opnd_view fun t ht => h t (by
  subst ht
  exact List.mem_append_left _ (List.mem_filterMap.2 ⟨.tmp t, by simpa using hx, rfl⟩))

theorem looks_wanted {o : Oper} {ts ts' : List TV} (h : SameV (o.looksAt ops) ts ts') : wantedE ops.toList ts' o = wantedE ops.toList ts o :=
  wanted_view fun j want g d hg ho hd => h d (by
    refine List.mem_append_right _ ?_
    simp only [hg, ho, Option.bind_some, hd, Option.toList_some, List.mem_singleton])

theorem evSel_local (hkeep : CallKeeps C call) {o : Oper} {st : St} {r : Res} (h : evSel C call fl me ops o st = some r) : LocalOp (evSel C call fl me ops o) (SameV (o.looksAt ops)) st r := by
  unfold evSel at h
  split at h
  · rename_i hw
    exact ((evOp_local hkeep h).weaken fun ts' => looks_opnd).congr fun ts' hp' q => by unfold evSel; simp only [looks_wanted q, hw]
  · rename_i hw
    cases h
    exact local_pure .sk .z (.inl rfl) rfl fun ts' hp' q => by unfold evSel; simp only [looks_wanted q, hw]
  · cases h

theorem evSel_facts {o : Oper} {st : St} {r : Res} (h : evSel C call fl me ops o st = some r) : Facts o r := by
  unfold evSel at h
  split at h
  · exact evOp_facts h
  · cases h; exact .pure ⟨⟨fun _ h => TV.noConfusion h, fun _ h => Fp.noConfusion h⟩, rfl⟩
  · cases h

def setD (ts : List TV) (dst : Option Nat) (v : TV) : List TV :=
  match dst with
  | some d => ts.set d v
  | none => ts

def Slot (ts : List TV) (d : Nat) : Prop := d < ts.length ∧ slotCells ts d = none

theorem put_iff {ts t' : List TV} {dst : Option Tmp} {v : TV} : put ts dst v = some t' ↔ t' = setD ts dst v ∧ ∀ d, dst = some d → Slot ts d := by
  unfold put
  cases dst with
  | none => simp [setD, eq_comm]
  | some d =>
    simp only [getAt_eq, setD, Slot, slotCells]
    constructor
    · intro h
      split at h
      · cases h
      · rename_i y hb hy
        cases h
        refine ⟨setAt_eq _ _ _, fun e he => ?_⟩
        cases he
        refine ⟨(List.getElem?_eq_some_iff.1 hy).1, ?_⟩
        rw [hy]
        cases y <;> first | rfl | exact (hb _ rfl).elim
      · cases h
    · rintro ⟨rfl, h⟩
      obtain ⟨h1, h2⟩ := h d rfl
      rw [List.getElem?_eq_getElem h1] at h2 ⊢
      cases hz : ts[d] <;> rw [hz] at h2 <;> first | (cases h2; done) | (simp only [setAt_eq])

theorem setD_view {ts : List TV} {dst : Option Nat} {v : TV} {t : Nat} (h : dst ≠ some t) : view (setD ts dst v) t = view ts t := by
  cases dst with
  | none => rfl
  | some d =>
    have hne : d ≠ t := fun e => h (by rw [e])
    simp only [view, setD, getAt_eq, List.getElem?_set_ne hne]

theorem setD_cells {ts : List TV} {dst : Option Nat} {v : TV} {t : Nat} (h : dst ≠ some t) : slotCells (setD ts dst v) t = slotCells ts t := by
  cases dst with
  | none => rfl
  | some d =>
    have hne : d ≠ t := fun e => h (by rw [e])
    simp only [slotCells, setD, getAt_eq, List.getElem?_set_ne hne]

theorem setD_len (ts : List TV) (dst : Option Nat) (v : TV) : (setD ts dst v).length = ts.length := by
  cases dst <;> simp [setD]

theorem setD_comm {ts : List TV} {a b : Option Nat} {u v : TV} (h : ∀ t, a = some t → b ≠ some t) : setD (setD ts a u) b v = setD (setD ts b v) a u := by
  cases a with
  | none => rfl
  | some a =>
    cases b with
    | none => rfl
    | some b => exact List.set_comm _ _ fun e => h a rfl (by rw [e])

def lwOf : Fp → Option Nat
  | .lw t => some t
  | _ => none

theorem wrS_eq (f : Fp) (c : List AV) (ts : List TV) : wrS f c ts = setD ts (lwOf f) (.bx c) := by
  cases f <;> first | rfl | exact setAt_eq _ _ _

theorem wrS_len (f : Fp) (c : List AV) (ts : List TV) : (wrS f c ts).length = ts.length := by rw [wrS_eq, setD_len]

theorem has_slot {ts : List TV} {t : Nat} {cs : List AV} (h : slotCells ts t = some cs) : ts[t]? = some (.bx cs) := by
  unfold slotCells at h
  rw [getAt_eq] at h
  split at h
  · rename_i cs' hc; cases h; exact hc
  · cases h

theorem wrS_view {f : Fp} {c : List AV} {ts : List TV} (h : Has f ts) (t : Nat) : view (wrS f c ts) t = view ts t := by
  rw [wrS_eq]
  by_cases ht : lwOf f = some t
  · cases f <;> first | (cases ht; done) | skip
    cases ht
    obtain ⟨cs, hcs⟩ := h
    have h1 := has_slot hcs
    simp only [lwOf, setD, view, getAt_eq, h1]
    rw [List.getElem?_set_self (List.getElem?_eq_some_iff.1 h1).1]
  · exact setD_view ht

theorem wrS_none {f : Fp} {c : List AV} {ts : List TV} (h : Has f ts) (t : Nat) : slotCells (wrS f c ts) t = none ↔ slotCells ts t = none := by
  rw [wrS_eq]
  by_cases ht : lwOf f = some t
  · cases f <;> first | (cases ht; done) | skip
    cases ht
    obtain ⟨cs, hcs⟩ := h
    have h1 := has_slot hcs
    rw [hcs]
    simp only [lwOf, setD, slotCells, getAt_eq]
    rw [List.getElem?_set_self (List.getElem?_eq_some_iff.1 h1).1]
    simp
  · rw [setD_cells ht]

theorem wrS_slot {f : Fp} {c : List AV} {ts : List TV} (h : Has f ts) (t : Nat) : Slot (wrS f c ts) t ↔ Slot ts t := by
  unfold Slot; rw [wrS_len, wrS_none h]

theorem setD_slot {ts : List TV} {dst : Option Nat} {v : TV} {t : Nat} (h : dst ≠ some t) : Slot (setD ts dst v) t ↔ Slot ts t := by
  unfold Slot; rw [setD_len, setD_cells h]

theorem slot_not {ts : List TV} {t : Nat} {cs : List AV} (h : slotCells ts t = some cs) : ¬ Slot ts t := fun k => by rw [k.2] at h; cases h

/-- Two operations that are apart, and do not clash, may change places. -/
theorem blk_old {hp x : List Blk} {b : Nat} (h : b < hp.length) : blkCells (hp ++ x) b = blkCells hp b := by
  unfold blkCells; rw [getAt_eq, getAt_eq, List.getElem?_append_left h]
theorem blk_more {hp x : List Blk} {b : Nat} {cs : List AV} (h : blkCells hp b = some cs) : blkCells (hp ++ x) b = some cs := by
  have : b < hp.length := by
    rcases Nat.lt_or_ge b hp.length with h' | h'
    · exact h'
    · exfalso
      unfold blkCells at h
      rw [getAt_eq, List.getElem?_eq_none h'] at h
      cases h
  rw [blk_old this]; exact h

theorem swap (hkeep : CallKeeps C call) {x y : Oper} {s s1 s2 : St} {fx fy : Fp} (hx : evOne C call fl me ops.toList x s = some (s1, fx)) (hy : evOne C call fl me ops.toList y s1 = some (s2, fy))
    (hap : x.apart ops y = true) (hcl : fx.clash fy = false) : ∃ s1', evOne C call fl me ops.toList y s = some (s1', fy) ∧ evOne C call fl me ops.toList x s1' = some (s2, fx) := by
  obtain ⟨p1, p2, p3⟩ := Oper.apart_spec hap
  obtain ⟨rx, tx, hxs, hxp, rfl, rfl⟩ := evOne_sel.1 hx
  obtain ⟨ry, ty, hys, hyp, rfl, rfl⟩ := evOne_sel.1 hy
  obtain ⟨cx, ax, bx, dx, lx⟩ := evSel_local hkeep hxs
  obtain ⟨cy, ay, by1, dy, ly⟩ := evSel_local hkeep hys
  have Fx := evSel_facts hxs
  obtain ⟨hxt, hxq⟩ := put_iff.1 hxp
  obtain ⟨hyt, hyq⟩ := put_iff.1 hyp
  clear hxp hyp hx hy
  subst hyt
  rw [bx] at hxt hxq
  subst hxt
  dsimp only at ay by1 dy ly
  rw [by1] at hyq
  have hxp := hxq
  have hyp := hyq
  -- the box that the second one touches is no box of the first one's
  have nd : ∀ t cs, (ry.fp = .lr t ∨ ry.fp = .lw t) → slotCells (setD (wrS rx.fp cx s.tmps) x.dst rx.val) t = some cs → x.dst ≠ some t := fun t cs hf hc hd => by
    have hsl := hxp t hd
    rw [hd] at hc
    have hv : rx.val = .bx cs := by
      have := has_slot hc
      simp only [setD] at this
      rw [List.getElem?_set_self hsl.1] at this
      exact Option.some.inj this
    rcases Fx.bx with hnb | ⟨d, cs', h1, h2, h3⟩
    · exact hnb.1 cs hv
    · rw [hd] at h2; cases h2
      rw [h1] at hcl
      rcases hf with hf | hf <;> rw [hf] at hcl <;> simp [Fp.clash] at hcl
  have nl : ∀ t, (ry.fp = .lr t ∨ ry.fp = .lw t) → lwOf rx.fp ≠ some t := fun t hf hl => by
    cases hfx : rx.fp <;> rw [hfx] at hl hcl <;> first | (cases hl; done) | skip
    cases hl
    rcases hf with hf | hf <;> rw [hf] at hcl <;> simp [Fp.clash] at hcl
  have same : ∀ t cs, (ry.fp = .lr t ∨ ry.fp = .lw t) → slotCells (setD (wrS rx.fp cx s.tmps) x.dst rx.val) t = some cs → slotCells s.tmps t = slotCells (setD (wrS rx.fp cx s.tmps) x.dst rx.val) t := fun t cs hf hc => by
    rw [setD_cells (nd t cs hf hc), wrS_eq, setD_cells (nl t hf)]
  have hasy : Has ry.fp s.tmps := by
    cases hf : ry.fp <;> rw [hf] at ay <;> try exact trivial
    case lr t => obtain ⟨cs, hc⟩ := ay; exact ⟨cs, (same t cs (.inl hf) hc).trans hc⟩
    case lw t => obtain ⟨cs, hc⟩ := ay; exact ⟨cs, (same t cs (.inr hf) hc).trans hc⟩
  have e1 := ly s.tmps s.hp (fun t ht => by
      rw [setD_view (fun h => p1 t h ht), wrS_view ax])
    (by
      cases hf : ry.fp <;> try exact trivial
      case lr t => rw [hf] at ay; obtain ⟨cs, hc⟩ := ay; exact same t cs (.inl hf) hc
      case lw t => rw [hf] at ay; obtain ⟨cs, hc⟩ := ay; exact same t cs (.inr hf) hc)
    (by
      cases hf : ry.fp <;> cases hg : rx.fp <;> rw [hf, hg] at hcl <;> first | (simp [Fp.clash] at hcl; done) | skip
      all_goals (rw [hg] at dx; first
        | exact trivial
        | exact dx.symm
        | (intro b cs hb; have dx : rx.hp = s.hp := dx; rw [dx] at hb; exact hb)
        | (intro cs hb; have dx : rx.hp = s.hp := dx; rw [dx] at hb; exact hb)
        | (obtain ⟨dx1, dx2, dx3⟩ := dx
           intro cs hb
           simp only [Fp.clash, decide_eq_false_iff_not] at hcl
           rw [dx3, blk_old (by omega)] at hb
           exact hb)))
  -- the slots
  have sy : ∀ d, y.dst = some d → Slot s.tmps d := fun d hd => by
    have h := (wrS_slot ay d).1 (hyp d hd)
    have hne : x.dst ≠ some d := fun h => p2 d h hd
    exact (wrS_slot ax d).1 ((setD_slot hne).1 h)
  have sx : ∀ d, x.dst = some d → Slot s.tmps d := fun d hd => (wrS_slot ax d).1 (hxp d hd)
  have nyx : ∀ t cs, slotCells s.tmps t = some cs → y.dst ≠ some t := fun t cs hc hd => slot_not hc (sy t hd)
  have hne2 : ∀ t, (rx.fp = .lr t ∨ rx.fp = .lw t) → lwOf ry.fp ≠ some t := fun t hf hl => by
    cases hfy : ry.fp <;> rw [hfy] at hl hcl <;> first | (cases hl; done) | skip
    cases hl
    rcases hf with hf | hf <;> rw [hf] at hcl <;> simp [Fp.clash] at hcl
  have same2 : ∀ t cs, (rx.fp = .lr t ∨ rx.fp = .lw t) → slotCells s.tmps t = some cs → slotCells (setD (wrS ry.fp cy s.tmps) y.dst ry.val) t = slotCells s.tmps t := fun t cs hf hc => by
    rw [setD_cells (nyx t cs hc), wrS_eq, setD_cells (hne2 t hf)]
  refine ⟨⟨setD (wrS ry.fp cy s.tmps) y.dst ry.val, hpOut ry.fp ry.hp s.hp⟩, evOne_sel.2 ⟨_, _, e1, put_iff.2 ⟨rfl, fun d hd => (wrS_slot hasy d).2 (sy d hd)⟩, rfl, rfl⟩, ?_⟩
  have hasx : Has rx.fp (setD (wrS ry.fp cy s.tmps) y.dst ry.val) := by
    cases hf : rx.fp <;> rw [hf] at ax <;> try exact trivial
    case lr t => obtain ⟨cs, hc⟩ := ax; exact ⟨cs, (same2 t cs (.inl hf) hc).trans hc⟩
    case lw t => obtain ⟨cs, hc⟩ := ax; exact ⟨cs, (same2 t cs (.inr hf) hc).trans hc⟩
  have e2 := lx (setD (wrS ry.fp cy s.tmps) y.dst ry.val) (hpOut ry.fp ry.hp s.hp) (fun t ht => by
      rw [setD_view (fun h => p3 t h ht), wrS_view hasy])
    (by
      cases hf : rx.fp <;> try exact trivial
      case lr t => rw [hf] at ax; obtain ⟨cs, hc⟩ := ax; exact same2 t cs (.inl hf) hc
      case lw t => rw [hf] at ax; obtain ⟨cs, hc⟩ := ax; exact same2 t cs (.inr hf) hc)
    (by
      cases hf : rx.fp <;> cases hg : ry.fp <;> rw [hf, hg] at hcl <;> first | (simp [Fp.clash] at hcl; done) | skip
      all_goals (rw [hf] at dx; rw [hg] at dy; first
        | exact trivial
        | rfl
        | (intro b cs hb; exact hb)
        | (intro cs hb; exact hb)
        | (intro b cs hb; have dx : rx.hp = s.hp := dx; rw [dx] at dy; exact dy b cs hb)
        | (intro cs hb; have dx : rx.hp = s.hp := dx; rw [dx] at dy; exact dy _ cs hb)
        | (have dx : rx.hp = s.hp := dx
           obtain ⟨dy1, dy2, dy3⟩ := dy
           intro b cs hb
           rw [dx] at dy3
           have := blk_more (x := dy2) hb
           rw [← dy3] at this
           exact this)
        | (have dx : rx.hp = s.hp := dx
           obtain ⟨dy1, dy2, dy3⟩ := dy
           intro cs hb
           rw [dx] at dy3
           have := blk_more (x := dy2) hb
           rw [← dy3] at this
           exact this)))
  have hheap : hpOut rx.fp rx.hp (hpOut ry.fp ry.hp s.hp) = ry.hp := by
    cases hf : rx.fp <;> cases hg : ry.fp <;> rw [hf, hg] at hcl <;> first | (simp [Fp.clash] at hcl; done) | skip
    all_goals (rw [hf] at dx; rw [hg] at dy; first | rfl | exact dy.symm | exact (dy.trans dx).symm)
  rw [hheap] at e2
  refine evOne_sel.2 ⟨_, _, e2, put_iff.2 ⟨?_, fun d hd => (wrS_slot hasx d).2 ((setD_slot (fun h => p2 d hd h)).2 ((wrS_slot hasy d).2 (sx d hd)))⟩, rfl, rfl⟩
  rw [by1]
  simp only [wrS_eq]
  have q1 : ∀ t, lwOf ry.fp = some t → x.dst ≠ some t := fun t ht => by
    cases hf : ry.fp <;> rw [hf] at ht ay <;> first | (cases ht; done) | skip
    cases ht
    obtain ⟨cs, hc⟩ := ay
    exact nd _ cs (.inr hf) hc
  have q2 : ∀ t, lwOf rx.fp = some t → y.dst ≠ some t := fun t ht => by
    cases hf : rx.fp <;> rw [hf] at ht ax <;> first | (cases ht; done) | skip
    cases ht
    obtain ⟨cs, hc⟩ := ax
    exact nyx _ cs hc
  have q3 : ∀ t, lwOf ry.fp = some t → lwOf rx.fp ≠ some t := fun t ht => by
    cases hf : ry.fp <;> rw [hf] at ht <;> first | (cases ht; done) | skip
    cases ht
    exact nl _ (.inr hf)
  have swap4 : ∀ (a b c d : Option Nat) (ta tb tc td : TV) (ts : List TV), (∀ t, c = some t → b ≠ some t) → (∀ t, a = some t → d ≠ some t) → (∀ t, c = some t → a ≠ some t) → (∀ t, b = some t → d ≠ some t) →
      setD (setD (setD (setD ts a ta) b tb) c tc) d td = setD (setD (setD (setD ts c tc) d td) a ta) b tb := fun a b c d ta tb tc td ts h1 h2 h3 h4 => by
    rw [setD_comm (a := b) (b := c) fun t hb hc => h1 t hc hb, setD_comm (a := a) (b := c) fun t ha hc => h3 t hc ha, setD_comm (a := b) (b := d) h4, setD_comm (a := a) (b := d) h2]
  exact swap4 (lwOf rx.fp) x.dst (lwOf ry.fp) y.dst _ _ _ _ s.tmps q1 q2 q3 p2
end
section
variable {P : Program} {C : Cfg} {call : CallF} {fl : Nat} {me : FuncId} {ops : Array Oper}

theorem Inv.drew {glob : Nat → Option AV} {B : Nat} {w0 w : World} {L : Lay} {hp : List Blk} (h : Inv glob B w0 L w hp) : Inv glob B w0 L w.drew hp := by
  have e : ∀ n, Ext n L w L w.drew := fun n => ⟨fun _ _ h => ⟨h, rfl⟩, fun _ _ _ h => ⟨h, fun _ _ h => h, rfl⟩, fun _ F _ h => ⟨F, h, .inl rfl⟩⟩
  refine ⟨h.below.drew, h.size, fun b cs hb => ?_, h.own, h.fams, h.spare, h.fresh, h.noLoc, h.noFam, fun g v hg => (h.globs g v hg).mono (Nat.le_refl _) (e 0), h.kept⟩
  obtain ⟨p, h1, h2, h3⟩ := h.blks b cs hb
  refine ⟨p, h1, h2, fun j c hj => ?_⟩
  obtain ⟨k1, k2, rv, k3, k4⟩ := h3 j c hj
  exact ⟨k1, k2, rv, k3, k4.mono (Nat.le_refl _) (e _)⟩

theorem Ext.drew (n : Nat) (L : Lay) (w : World) : Ext n L w L w.drew := ⟨fun _ _ h => ⟨h, rfl⟩, fun _ _ _ h => ⟨h, fun _ _ h => h, rfl⟩, fun _ F _ h => ⟨F, h, .inl rfl⟩⟩
theorem KeepLoc.drew (s : Nat) (L : Lay) (w : World) : KeepLoc s L w L w.drew := fun _ _ _ _ h => ⟨h, rfl, rfl⟩

theorem Post.trans {B : Nat} {w0 : World} {base : Nat} {L L1 : Lay} {w w1 : World} {n n1 : Nat} {hp' : List Blk} {ts' : List TV} {ds : List Deferred} {a' : Act} {w' : World} (hn : n ≤ n1) (he : Ext n L w L1 w1) (hk : KeepLoc base L w L1 w1) (hs : w.heap.size ≤ w1.heap.size)
    (h : Post C B w0 base L1 w1 n1 hp' ts' ds a' w') : Post C B w0 base L w n hp' ts' ds a' w' := by
  obtain ⟨L', h1, h2, h3, h4, h5, h6, h7⟩ := h
  exact ⟨L', h1, he.trans hn h2, hk.trans (Nat.le_refl _) h3, Nat.le_trans hs h4, Nat.le_trans hn h5, h6, h7⟩

theorem VR.bool_inv {n : Nat} {L : Lay} {w : World} {x : AV} {b : Bool} (h : VR n L w x (.bool b)) : x = .bool b := by cases h; rfl

theorem wanted_ok {n base : Nat} {L : Lay} {w : World} {ts : List TV} {rt : Array Value} {o : Oper} {b : Bool} (hF : FR n L w base ts rt) (h : wantedE ops.toList ts o = some b) : Region.wanted o (yielded ops rt) = b := by
  unfold wantedE at h
  unfold Region.wanted
  cases hg : o.guard with
  | none => rw [hg] at h; exact Option.some.inj h
  | some p =>
    obtain ⟨j, want⟩ := p
    rw [hg] at h
    simp only [getAt_eq, Array.getElem?_toList] at h ⊢
    unfold yielded
    cases ho : ops[j]? with
    | none => rw [ho] at h; simp only at h; cases h; rfl
    | some g =>
      rw [ho] at h
      simp only [Option.bind_some] at h ⊢
      cases hd : g.dst with
      | none => rw [hd] at h; simp only at h; cases h; rfl
      | some d =>
        rw [hd] at h
        simp only [Option.bind_some] at h ⊢
        cases hx : ts[d]? with
        | none => rw [hx] at h; cases h
        | some x =>
          have hd : d < rt.size := by have := (List.getElem?_eq_some_iff.1 hx).1; rw [hF.len] at this; exact this
          have hv := hF.slot d x hx
          rw [hx] at h
          have hrt : rt[d]? = some (rt.getD d undef) := by simp [Array.getD, hd]
          rw [hrt]
          cases x with
          | junk => cases h
          | bx cs => cases h
          | lp t off => cases h
          | sk =>
            cases h
            have hv : rt.getD d undef = undef := hv
            rw [hv]
            rfl
          | v y =>
            have hv : VR n L w y (rt.getD d undef) := hv
            generalize rt.getD d undef = v at hv ⊢
            by_cases hy : ∃ c, v = .bool c
            · obtain ⟨c, rfl⟩ := hy
              have := hv.bool_inv
              subst this
              cases h
              cases c <;> cases want <;> rfl
            · have hn : b = false := by
                cases y with
                | bool c => cases hv; exact absurd ⟨c, rfl⟩ hy
                | _ => cases h; rfl
              subst hn
              cases v with
              | bool c => exact absurd ⟨c, rfl⟩ hy
              | _ => rfl

section
variable {B base : Nat} {w0 w : World} {L : Lay} {ds : List Deferred} {Q : Exit → Act → World → Prop}

theorem one_ok (hT : TysOK P C) (hcall : CallOK P C call) {o : Oper} {j : Nat} (hj : ops[j]? = some o) {st st' : St} {f : Fp} {a : Act} {K : Act → World → Prop} (hI : Inv C.glob B w0 L w st.hp) (hF : FR st.hp.length L w base st.tmps a.tmps)
    (hd : a.defers = ds) (hBb : B ≤ base) (hbw : base ≤ w.heap.size) (h : evOne C call fl me ops.toList o st = some (st', f))
    (hK : ∀ a' w', Post C B w0 base L w st.hp.length st'.hp st'.tmps ds a' w' → K a' w') : wpOp P ops Q j K a w := by
  unfold wpOp
  simp only [hj]
  obtain ⟨r, t, hr, hp, rfl, rfl⟩ := evOne_sel.1 h
  obtain ⟨rt, ds'⟩ := a
  cases hd
  unfold evSel at hr
  split at hr
  · rename_i hw
    rw [wanted_ok hF hw, if_pos rfl]
    exact .inl (evOp_ok hT hcall hI hF hBb hbw hr hp hK)
  · rename_i hw
    rw [wanted_ok hF hw]
    simp only [Bool.false_eq_true, if_false]
    cases hr
    exact hK _ _ ⟨L, hI, Ext.refl _ _ _, KeepLoc.refl _ _ _, Nat.le_refl _, Nat.le_refl _, put_ok hp hF fun d _ => rfl, put_act _ _⟩
  · cases hr

/-- operations in the order of the text -/
theorem ops_ok (hT : TysOK P C) (hcall : CallOK P C call) (hBb : B ≤ base) : ∀ (l : List Oper) (k : Nat) (st st' : St) (fps : List Fp) (a : Act) (w : World) (L : Lay), (∀ j, l[j]? = ops[k + j]?) →
    Inv C.glob B w0 L w st.hp → FR st.hp.length L w base st.tmps a.tmps → a.defers = ds → base ≤ w.heap.size → runOps C call fl me ops.toList l st = some (st', fps) →
    (∀ a' w', Post C B w0 base L w st.hp.length st'.hp st'.tmps ds a' w' → Q .normal a' w') → wpOps P ops Q (List.range' k l.length) a w
  | [], k, st, st', fps, a, w, L, _, hI, hF, hd, _, h, hQ => by
    simp only [runOps, Option.some.injEq, Prod.mk.injEq] at h
    obtain ⟨rfl, _⟩ := h
    exact hQ _ _ ⟨L, hI, Ext.refl _ _ _, KeepLoc.refl _ _ _, Nat.le_refl _, Nat.le_refl _, hF, hd⟩
  | o :: l, k, st, st', fps, a, w, L, hl, hI, hF, hd, hbw, h, hQ => by
    have h0 : ops[k]? = some o := by simpa using (hl 0).symm
    simp only [runOps] at h
    split at h
    · rename_i st1 f h1
      split at h
      · rename_i st2 fs h2
        cases h
        rw [List.length_cons, List.range'_succ, wpOps_cons]
        refine one_ok hT hcall h0 hI hF hd hBb hbw h1 fun a1 w1 hp => ?_
        obtain ⟨L1, p1, p2, p3, p4, p5, p6, p7⟩ := hp
        exact ops_ok hT hcall hBb l (k + 1) st1 st' fs a1 w1 L1 (fun j => by have := hl (j + 1); simpa [Nat.add_assoc, Nat.add_comm 1 j] using this) p1 p6 p7 (by omega) h2
          fun a' w' hp => hQ a' w' (hp.trans p5 p2 p3 p4)
      · cases h
    · cases h

/-! ### operations in any order -/
def RunI (C : Cfg) (call : CallF) (fl : Nat) (me : FuncId) (ops : Array Oper) (φ : Nat → Fp) : List (Nat × Oper) → St → St → Prop
  | [], s, s' => s = s'
  | (i, o) :: rest, s, s' => ∃ s1, evOne C call fl me ops.toList o s = some (s1, φ i) ∧ RunI C call fl me ops φ rest s1 s'

def enumF : Nat → List Oper → List (Nat × Oper)
  | _, [] => []
  | k, o :: r => (k, o) :: enumF (k + 1) r

theorem runI_of {φ : Nat → Fp} : ∀ (l : List Oper) (k : Nat) (s s' : St) (fps : List Fp), runOps C call fl me ops.toList l s = some (s', fps) → (∀ j f, fps[j]? = some f → φ (k + j) = f) → RunI C call fl me ops φ (enumF k l) s s'
  | [], k, s, s', fps, h, _ => by simp only [runOps, Option.some.injEq, Prod.mk.injEq] at h; exact h.1
  | o :: l, k, s, s', fps, h, hφ => by
    simp only [runOps] at h
    split at h
    · rename_i st1 f h1
      split at h
      · rename_i st2 fs h2
        cases h
        refine ⟨st1, ?_, runI_of l (k + 1) st1 s' fs h2 fun j f hj => ?_⟩
        · have := hφ 0 f rfl; rw [show k = k + 0 from rfl, this]; exact h1
        · have := hφ (j + 1) f (by simpa using hj); rw [← this]; congr 1; omega
      · cases h
    · cases h

theorem mem_enumF : ∀ (l : List Oper) (k i : Nat) (o : Oper), (i, o) ∈ enumF k l ↔ k ≤ i ∧ l[i - k]? = some o
  | [], k, i, o => by simp [enumF]
  | x :: l, k, i, o => by
    simp only [enumF, List.mem_cons, Prod.mk.injEq, mem_enumF l (k + 1) i o]
    constructor
    · rintro (⟨rfl, rfl⟩ | ⟨h1, h2⟩)
      · simp
      · refine ⟨by omega, ?_⟩
        rw [show i - k = (i - (k + 1)) + 1 by omega]; simpa using h2
    · rintro ⟨h1, h2⟩
      by_cases hk : i = k
      · subst hk; simp at h2; exact .inl ⟨rfl, h2.symm⟩
      · refine .inr ⟨by omega, ?_⟩
        rw [show i - k = (i - (k + 1)) + 1 by omega] at h2; simpa using h2

theorem enumF_sorted : ∀ (l : List Oper) (k : Nat), (enumF k l).Pairwise fun p q => p.1 < q.1
  | [], k => by simp [enumF]
  | x :: l, k => by
    simp only [enumF, List.pairwise_cons]
    exact ⟨fun p hp => by obtain ⟨i, o⟩ := p; have := ((mem_enumF l (k + 1) i o).1 hp).1; show k < i; omega, enumF_sorted l (k + 1)⟩

theorem enumF_len : ∀ (l : List Oper) (k : Nat), (enumF k l).length = l.length
  | [], _ => rfl
  | _ :: l, k => by simp [enumF, enumF_len l]

theorem bubble (hkeep : CallKeeps C call) {φ : Nat → Fp} {j : Nat} {y : Oper} {post : List (Nat × Oper)} : ∀ (pre : List (Nat × Oper)) (s s' : St), RunI C call fl me ops φ (pre ++ (j, y) :: post) s s' →
    (∀ p ∈ pre, p.2.apart ops y = true ∧ (φ p.1).clash (φ j) = false) → ∃ s1, evOne C call fl me ops.toList y s = some (s1, φ j) ∧ RunI C call fl me ops φ (pre ++ post) s1 s'
  | [], s, s', h, _ => h
  | (i, x) :: pre, s, s', h, hp => by
    obtain ⟨s1, h1, h2⟩ := h
    obtain ⟨s2, h3, h4⟩ := bubble hkeep pre s1 s' h2 fun p hm => hp p (List.mem_cons_of_mem _ hm)
    obtain ⟨q1, q2⟩ := hp (i, x) (List.mem_cons_self ..)
    obtain ⟨s3, h5, h6⟩ := swap hkeep h1 h3 q1 q2
    exact ⟨s3, h5, s2, h6, h4⟩

/-- what the orders of a region need -/
structure Loose (ops : Array Oper) (φ : Nat → Fp) (bef : Nat → Nat → Prop) : Prop where
  back : ∀ (j : Nat) o e, ops[j]? = some o → e ∈ o.after → Region.binds .any e = true → e.on < j
  via : ∀ i j, bef i j → ∃ o, ops[j]? = some o ∧ ∃ e ∈ o.after, Region.binds .any e = true ∧ (e.on = i ∨ bef i e.on)
  free : ∀ (i j : Nat) x y, i < j → ops[i]? = some x → ops[j]? = some y → ¬ bef i j → x.apart ops y = true ∧ (φ i).clash (φ j) = false

theorem bef_listed {φ : Nat → Fp} {bef : Nat → Nat → Prop} (hl : Loose ops φ bef) {listed : Array Bool} (hcl : ∀ (j : Nat) o, ops[j]? = some o → listed.getD j false = true → ∀ e ∈ o.after, Region.binds .any e = true → listed.getD e.on false = true) :
    ∀ (j i : Nat) o, ops[j]? = some o → (∀ e ∈ o.after, Region.binds .any e = true → listed.getD e.on false = true) → bef i j → listed.getD i false = true := by
  intro j
  induction j using Nat.strongRecOn with
  | _ j ih =>
    intro i o ho hall hb
    obtain ⟨o', ho', e, he, hbind, h⟩ := hl.via i j hb
    rw [ho] at ho'; cases ho'
    rcases h with rfl | h
    · exact hall e he hbind
    · have hlt := hl.back j o e ho he hbind
      have hel := hall e he hbind
      obtain ⟨p, hp⟩ : ∃ p, ops[e.on]? = some p := by
        obtain ⟨p, hp, _⟩ := hl.via i e.on h
        exact ⟨p, hp⟩
      exact ih e.on hlt i p hp (hcl e.on p hp hel) h

theorem any_ok (hT : TysOK P C) (hcall : CallOK P C call) (hkeep : CallKeeps C call) (hBb : B ≤ base) {φ : Nat → Fp} {bef : Nat → Nat → Prop} (hl : Loose ops φ bef) : ∀ (fuel : Nat) (rest : List (Nat × Oper)) (listed : Array Bool) (s s' : St) (a : Act) (w : World) (L : Lay),
    rest.Pairwise (fun p q => p.1 < q.1) → (∀ i x, (i, x) ∈ rest ↔ ops[i]? = some x ∧ listed.getD i true = false) → listed.size = ops.size → rest.length ≤ fuel →
    (∀ (j : Nat) o, ops[j]? = some o → listed.getD j false = true → ∀ e ∈ o.after, Region.binds .any e = true → listed.getD e.on false = true) →
    Inv C.glob B w0 L w s.hp → FR s.hp.length L w base s.tmps a.tmps → a.defers = ds → base ≤ w.heap.size → RunI C call fl me ops φ rest s s' →
    (∀ a' w', Post C B w0 base L w s.hp.length s'.hp s'.tmps ds a' w' → Q .normal a' w') → wpAny P .any ops Q fuel listed a w := by
  intro fuel
  have none_of : ∀ (rest : List (Nat × Oper)) (listed : Array Bool), (∀ i x, (i, x) ∈ rest ↔ ops[i]? = some x ∧ listed.getD i true = false) → rest = [] → Region.ready .any ops listed = [] := fun rest listed hm hr => by
    apply List.eq_nil_iff_forall_not_mem.2
    intro j hj
    obtain ⟨h1, o, h2, _⟩ := mem_ready.1 hj
    have := (hm j o).2 ⟨h2, h1⟩
    rw [hr] at this
    cases this
  have fin : ∀ (rest : List (Nat × Oper)) (s s' : St) (a : Act) (w : World) (L : Lay), rest = [] → Inv C.glob B w0 L w s.hp → FR s.hp.length L w base s.tmps a.tmps → a.defers = ds → RunI C call fl me ops φ rest s s' →
      (∀ a' w', Post C B w0 base L w s.hp.length s'.hp s'.tmps ds a' w' → Q .normal a' w') → Q .normal a w := fun rest s s' a w L hr hI hF hd h hQ => by
    subst hr
    have h : s = s' := h
    subst h
    exact hQ _ _ ⟨L, hI, Ext.refl _ _ _, KeepLoc.refl _ _ _, Nat.le_refl _, Nat.le_refl _, hF, hd⟩
  induction fuel with
  | zero =>
    intro rest listed s s' a w L _ hm _ hlen _ hI hF hd _ h hQ
    have hr : rest = [] := List.eq_nil_of_length_eq_zero (by omega)
    exact ⟨none_of rest listed hm hr, fin rest s s' a w L hr hI hF hd h hQ⟩
  | succ fuel ih =>
    intro rest listed s s' a w L hs hm hsz hlen hcl hI hF hd hbw h hQ
    refine ⟨fun hn => ?_, fun j hj => ?_⟩
    · refine fin rest s s' a w L ?_ hI hF hd h hQ
      cases hrest : rest with
      | nil => rfl
      | cons p r =>
        exfalso
        obtain ⟨j, y⟩ := p
        obtain ⟨h1, h2⟩ := (hm j y).1 (by rw [hrest]; exact List.mem_cons_self ..)
        have : j ∈ Region.ready .any ops listed := mem_ready.2 ⟨h2, y, h1, fun e he hb => by
          have hlt := hl.back j y e h1 he hb
          have hjs := (Array.getElem?_eq_some_iff.1 h1).1
          have hes : e.on < listed.size := by omega
          cases hle : listed.getD e.on false with
          | true => rfl
          | false =>
            exfalso
            have h3 : (e.on, ops[e.on]'(by omega)) ∈ rest := (hm _ _).2 ⟨Array.getElem?_eq_getElem (by omega), by simp [hes] at hle ⊢; exact hle⟩
            rw [hrest] at h3 hs
            rcases List.mem_cons.1 h3 with h3 | h3
            · have := congrArg Prod.fst h3; dsimp only at this; omega
            · have := (List.pairwise_cons.1 hs).1 _ h3; dsimp only at this; omega⟩
        rw [hn] at this
        cases this
    · obtain ⟨hun, y, hy, hall⟩ := mem_ready.1 hj
      have hmem := (hm j y).2 ⟨hy, hun⟩
      obtain ⟨pre, post, rfl⟩ := List.append_of_mem hmem
      obtain ⟨hs1, hs2, hs3⟩ := List.pairwise_append.1 hs
      obtain ⟨hs4, hs5⟩ := List.pairwise_cons.1 hs2
      obtain ⟨s1, h1, h2⟩ := bubble hkeep pre s s' h fun p hp => by
        obtain ⟨i, x⟩ := p
        have hlt : i < j := hs3 _ hp _ (List.mem_cons_self ..)
        obtain ⟨hx, hix⟩ := (hm i x).1 (List.mem_append_left _ hp)
        refine hl.free i j x y hlt hx hy fun hb => ?_
        have := bef_listed hl hcl j i y hy hall hb
        have his := (Array.getElem?_eq_some_iff.1 hx).1
        have his : i < listed.size := by omega
        simp [his] at this hix
        rw [this] at hix
        cases hix
      refine one_ok hT hcall hy hI hF hd hBb hbw h1 fun a1 w1 hp => ?_
      obtain ⟨L1, p1, p2, p3, p4, p5, p6, p7⟩ := hp
      refine ih (pre ++ post) (listed.setIfInBounds j true) s1 s' a1 w1 L1 ?_ ?_ (by simpa using hsz) ?_ ?_ p1 p6 p7 (by omega) h2 fun a' w' hp => hQ a' w' (hp.trans p5 p2 p3 p4)
      · exact List.pairwise_append.2 ⟨hs1, hs5, fun p hp q hq => hs3 p hp q (List.mem_cons_of_mem _ hq)⟩
      · intro i x
        constructor
        · intro hi
          have hi' : (i, x) ∈ pre ++ (j, y) :: post := by
            rcases List.mem_append.1 hi with hi | hi
            · exact List.mem_append_left _ hi
            · exact List.mem_append_right _ (List.mem_cons_of_mem _ hi)
          obtain ⟨k1, k2⟩ := (hm i x).1 hi'
          refine ⟨k1, ?_⟩
          rw [getD_set_ne]
          · exact k2
          · rintro rfl
            rcases List.mem_append.1 hi with hi | hi
            · have := hs3 _ hi _ (List.mem_cons_self ..); dsimp only at this; omega
            · have := hs4 _ hi; dsimp only at this; omega
        · rintro ⟨k1, k2⟩
          have hne : j ≠ i := by
            rintro rfl
            have hjs := (Array.getElem?_eq_some_iff.1 hy).1
            have : j < listed.size := by omega
            simp [this] at k2
          rw [getD_set_ne true hne] at k2
          rcases List.mem_append.1 ((hm i x).2 ⟨k1, k2⟩) with hi | hi
          · exact List.mem_append_left _ hi
          · rcases List.mem_cons.1 hi with hi | hi
            · have := congrArg Prod.fst hi; dsimp only at this; exact absurd this.symm hne
            · exact List.mem_append_right _ hi
      · simp only [List.length_append, List.length_cons] at hlen ⊢; omega
      · intro k o ho hk e he hb
        by_cases hkj : k = j
        · subst hkj
          rw [hy] at ho; cases ho
          exact getD_set_true (hall e he hb)
        · rw [getD_set_ne false (Ne.symm hkj)] at hk
          exact getD_set_true (hcl k o ho hk e he hb)
end
end
section
variable {P : Program} {C : Cfg} {call : CallF} {fl : Nat} {me : FuncId} {ops : Array Oper}

/-! ### what is told of a region's orders beforehand -/
def maskOf (acc : List Nat) (o : Oper) : Nat :=
  o.after.toList.foldl (fun s e => bif Region.binds .any e then s ||| (2 ^ e.on ||| (acc[e.on]?).getD 0) else s) 0

def masks : List Oper → List Nat → List Nat
  | [], acc => acc
  | o :: r, acc => masks r (acc ++ [maskOf acc o])

def Bef (l : List Oper) (i j : Nat) : Prop := ∃ m, (masks l [])[j]? = some m ∧ m.testBit i = true

theorem maskOf_fold (acc : List Nat) (i : Nat) : ∀ (es : List Edge) (s : Nat), (es.foldl (fun s e => bif Region.binds .any e then s ||| (2 ^ e.on ||| (acc[e.on]?).getD 0) else s) s).testBit i = true →
    s.testBit i = true ∨ ∃ e ∈ es, Region.binds .any e = true ∧ (e.on = i ∨ ((acc[e.on]?).getD 0).testBit i = true)
  | [], s, h => .inl h
  | e :: es, s, h => by
    rw [List.foldl_cons] at h
    rcases maskOf_fold acc i es _ h with h | ⟨e', h1, h2⟩
    · cases hb : Region.binds .any e with
      | false => rw [hb, cond_false rfl] at h; exact .inl h
      | true =>
        rw [hb, cond_true rfl, Nat.testBit_or, Nat.testBit_or, Bool.or_eq_true, Bool.or_eq_true, Nat.testBit_two_pow] at h
        rcases h with h | h | h
        · exact .inl h
        · exact .inr ⟨e, List.mem_cons_self .., hb, .inl (by simpa using h)⟩
        · exact .inr ⟨e, List.mem_cons_self .., hb, .inr h⟩
    · exact .inr ⟨e', List.mem_cons_of_mem _ h1, h2⟩

theorem masks_good (l : List Oper) : ∀ (r pre : List Oper) (acc : List Nat), l = pre ++ r → acc.length = pre.length →
    (∀ (j m : Nat), acc[j]? = some m → ∀ i, m.testBit i = true → ∃ o : Oper, l[j]? = some o ∧ ∃ e ∈ o.after, Region.binds .any e = true ∧ (e.on = i ∨ ∃ m', acc[e.on]? = some m' ∧ m'.testBit i = true)) →
    (∀ (j m : Nat), (masks r acc)[j]? = some m → ∀ i, m.testBit i = true → ∃ o : Oper, l[j]? = some o ∧ ∃ e ∈ o.after, Region.binds .any e = true ∧ (e.on = i ∨ ∃ m', (masks r acc)[e.on]? = some m' ∧ m'.testBit i = true))
  | [], pre, acc, _, _, h => h
  | o :: r, pre, acc, hl, hlen, h => by
    refine masks_good l r (pre ++ [o]) (acc ++ [maskOf acc o]) (by rw [hl]; simp) (by simp [hlen]) fun j m hj i hi => ?_
    have up : ∀ {k m'}, acc[k]? = some m' → (acc ++ [maskOf acc o])[k]? = some m' := fun {k m'} hk => by
      rw [List.getElem?_append_left (List.getElem?_eq_some_iff.1 hk).1]; exact hk
    by_cases hlt : j < acc.length
    · rw [List.getElem?_append_left hlt] at hj
      obtain ⟨o', h1, e, h2, h3, h4⟩ := h j m hj i hi
      exact ⟨o', h1, e, h2, h3, h4.imp id fun ⟨m', k1, k2⟩ => ⟨m', up k1, k2⟩⟩
    · have hjl := (List.getElem?_eq_some_iff.1 hj).1
      simp at hjl
      have hj' : j = acc.length := by omega
      subst hj'
      simp at hj
      subst hj
      rcases maskOf_fold acc i _ _ hi with h0 | ⟨e, h1, h2, h3⟩
      · simp at h0
      · refine ⟨o, by rw [hl, hlen]; simp, e, by simpa using h1, h2, h3.imp id fun hb => ?_⟩
        cases ha : acc[e.on]? with
        | none => rw [ha] at hb; simp at hb
        | some m' => rw [ha] at hb; exact ⟨m', up ha, by simpa using hb⟩

def harmless (x y : Oper) : Bool := cls x == 0 || cls y == 0 || (cls x == 1 && cls y == 1)

def looseB (prs : List (Nat × Nat)) (ops : Array Oper) : Bool :=
  let l := ops.toList
  let ms := masks l []
  let es := enumF 0 l
  es.all fun q => (q.2.after.toList.all fun e => !Region.binds .any e || decide (e.on < q.1)) &&
    es.all fun p => !decide (p.1 < q.1) || (((ms[q.1]?).getD 0).testBit p.1 || (p.2.apart ops q.2 && (harmless p.2 q.2 || prs.any fun x => x.1 == p.1 && x.2 == q.1)))

theorem noClash_spec {fps : List Fp} : ∀ {ps : List (Nat × Nat)}, noClash fps ps = true → ∀ p ∈ ps, ∃ a b, fps[p.1]? = some a ∧ fps[p.2]? = some b ∧ a.clash b = false
  | [], _, p, hp => by cases hp
  | (i, j) :: ps, h, p, hp => by
    simp only [noClash, getAt_eq, Bool.and_eq_true] at h
    obtain ⟨h1, h2⟩ := h
    rcases List.mem_cons.1 hp with rfl | hp
    · split at h1
      · rename_i a b ha hb; exact ⟨a, b, ha, hb, by simpa using h1⟩
      · cases h1
    · exact noClash_spec h2 p hp

theorem runI_facts {φ : Nat → Fp} : ∀ (l : List (Nat × Oper)) (s s' : St), RunI C call fl me ops φ l s s' → ∀ p ∈ l, (cls p.2 = 0 → φ p.1 = .z) ∧ (cls p.2 = 1 → φ p.1 = .z ∨ φ p.1 = .hr ∨ (∃ b, φ p.1 = .hb b) ∨ ∃ t, φ p.1 = .lr t)
  | [], _, _, _, p, hp => by cases hp
  | (i, o) :: l, s, s', h, p, hp => by
    obtain ⟨s1, h1, h2⟩ := h
    rcases List.mem_cons.1 hp with rfl | hp
    · obtain ⟨r, t, hr, _, _, hf⟩ := evOne_sel.1 h1
      have F := evSel_facts hr
      dsimp only
      rw [hf]
      exact ⟨F.c0, F.c1⟩
    · exact runI_facts l s1 s' h2 p hp

theorem clash_z (a : Fp) : Fp.clash .z a = false := by cases a <;> rfl
theorem clash_z' (a : Fp) : a.clash .z = false := by cases a <;> rfl

theorem loose_ok {prs : List (Nat × Nat)} {fps : List Fp} {s s' : St} (hb : looseB prs ops = true) (hn : noClash fps prs = true) (hr : RunI C call fl me ops (fun i => (fps[i]?).getD .z) (enumF 0 ops.toList) s s') :
    Loose ops (fun i => (fps[i]?).getD .z) (Bef ops.toList) := by
  have mem : ∀ (i : Nat) x, ops[i]? = some x → (i, x) ∈ enumF 0 ops.toList := fun i x h => (mem_enumF _ _ _ _).2 ⟨Nat.zero_le _, by simpa using h⟩
  unfold looseB at hb
  simp only [List.all_eq_true, Bool.and_eq_true] at hb
  refine ⟨fun j o e ho he hbd => ?_, fun i j hij => ?_, fun i j x y hlt hx hy hnb => ?_⟩
  · have := (hb _ (mem j o ho)).1 e (by simpa using he)
    simp [hbd] at this
    exact this
  · obtain ⟨m, hm, hi⟩ := hij
    obtain ⟨o, h1, e, h2, h3, h4⟩ := masks_good ops.toList ops.toList [] [] rfl rfl (fun j m h => by simp at h) j m hm i hi
    exact ⟨o, by simpa using h1, e, h2, h3, h4⟩
  · have h1 := (hb _ (mem j y hy)).2 _ (mem i x hx)
    have h0 : (((masks ops.toList [])[j]?).getD 0).testBit i = false := by
      cases ht : (((masks ops.toList [])[j]?).getD 0).testBit i with
      | false => rfl
      | true =>
        exfalso
        cases hm : (masks ops.toList [])[j]? with
        | none => rw [hm] at ht; simp at ht
        | some m => rw [hm] at ht; exact hnb ⟨m, hm, by simpa using ht⟩
    simp only [hlt, decide_true, Bool.not_true, Bool.false_or, h0, Bool.and_eq_true, Bool.or_eq_true] at h1
    refine ⟨h1.1, ?_⟩
    obtain ⟨x0, x1⟩ := runI_facts _ _ _ hr _ (mem i x hx)
    obtain ⟨y0, y1⟩ := runI_facts _ _ _ hr _ (mem j y hy)
    dsimp only at x0 x1 y0 y1 ⊢
    rcases h1.2 with h2 | h2
    · simp only [harmless, Bool.or_eq_true, Bool.and_eq_true, beq_iff_eq] at h2
      rcases h2 with (h2 | h2) | ⟨h2, h3⟩
      · rw [x0 h2]; exact clash_z _
      · rw [y0 h2]; exact clash_z' _
      · rcases x1 h2 with e | e | ⟨b, e⟩ | ⟨t, e⟩ <;> rcases y1 h3 with f | f | ⟨b', f⟩ | ⟨u, f⟩ <;> rw [e, f] <;> rfl
    · simp only [List.any_eq_true, Bool.and_eq_true, beq_iff_eq] at h2
      obtain ⟨p, hp, h3, h4⟩ := h2
      obtain ⟨a, b, ha, hb2, hc⟩ := noClash_spec hn p hp
      rw [h3] at ha
      rw [h4] at hb2
      rw [ha, hb2]
      exact hc

/-- every drawn region of a code is loose -/
def codeOK (C : Cfg) (me : FuncId) : Code → Bool
  | .region id ops draw => !draw || looseB (C.pairs me id) ops
  | .seq a b => codeOK C me a && codeOK C me b
  | .cond _ a b => codeOK C me a && codeOK C me b
  | .block _ a => codeOK C me a
  | .loop a => codeOK C me a
  | _ => true

def Ex.to : Ex → Exit
  | .normal => .normal
  | .exit id => .exit id
  | .ret => .ret

theorem cleanT_len : ∀ (ts : List TV) (m : Nat), (cleanT ts m).length = ts.length
  | [], _ => rfl
  | _ :: ts, m => by simp [cleanT, cleanT_len ts]

theorem cleanT_get : ∀ (ts : List TV) (m i : Nat) (x : TV), (cleanT ts m)[i]? = some x → x = .junk ∨ (ts[i]? = some x ∧ ∀ t o, x ≠ .lp t o)
  | [], _, i, x, h => by simp [cleanT] at h
  | y :: ts, m, 0, x, h => by
    simp only [cleanT, List.getElem?_cons_zero, Option.some.injEq] at h
    cases hm : (m % 2 == 1) with
    | false => rw [hm, cond_false rfl] at h; exact .inl h.symm
    | true =>
      rw [hm, cond_true rfl] at h
      cases y <;> first | exact .inl h.symm | (subst h; exact .inr ⟨rfl, fun _ _ h => TV.noConfusion h⟩)
  | y :: ts, m, i + 1, x, h => by
    simp only [cleanT, List.getElem?_cons_succ] at h
    exact cleanT_get ts (m / 2) i x h

theorem FR.clean {n base : Nat} {L : Lay} {w : World} {ts : List TV} {rt : Array Value} (hF : FR n L w base ts rt) (m : Nat) : FR n L w base (cleanT ts m) rt := by
  refine ⟨by rw [cleanT_len, hF.len], fun i x hx => ?_, fun i t off hi => ?_⟩
  · rcases cleanT_get ts m i x hx with rfl | ⟨h, _⟩
    · exact trivial
    · exact hF.slot i x h
  · rcases cleanT_get ts m i _ hi with h | ⟨h, h2⟩
    · cases h
    · exact absurd rfl (h2 t off)

theorem cleanSt_hp (m : Option Nat) (st : St) : (cleanSt m st).hp = st.hp := by cases m <;> rfl
theorem FR.cleanSt {n base : Nat} {L : Lay} {w : World} {st : St} {rt : Array Value} (hF : FR n L w base st.tmps rt) (m : Option Nat) : FR n L w base (cleanSt m st).tmps rt := by
  cases m with
  | none => exact hF
  | some m => exact hF.clean m

section
variable {B base : Nat} {w0 : World} {ds : List Deferred}

theorem region_ok (hT : TysOK P C) (hcall : CallOK P C call) (hkeep : CallKeeps C call) (hm : P.follows .mixedOrders = true) (hBb : B ≤ base) {id : Nat} {draw : Bool} (hc : codeOK C me (.region id ops draw) = true) {st st' : St} {fps : List Fp} {a : Act} {w : World} {L : Lay} {Q : Exit → Act → World → Prop}
    (hI : Inv C.glob B w0 L w st.hp) (hF : FR st.hp.length L w base st.tmps a.tmps) (hd : a.defers = ds) (hbw : base ≤ w.heap.size) (h : runOps C call fl me ops.toList ops.toList st = some (st', fps)) (hcl : (!draw || noClash fps (C.pairs me id)) = true)
    (hQ : ∀ a' w', Post C B w0 base L w st.hp.length st'.hp st'.tmps ds a' w' → Q .normal a' w') : (Code.region id ops draw).wp P Q a w := by
  cases draw with
  | false =>
    refine wp_region ?_
    rw [List.range_eq_range', ← Array.length_toList]
    exact ops_ok hT hcall hBb ops.toList 0 st st' fps a w L (fun j => by simp) hI hF hd hbw h hQ
  | true =>
    refine wp_region_any hm ?_
    have hlb : looseB (C.pairs me id) ops = true := by simpa [codeOK] using hc
    have hn : noClash fps (C.pairs me id) = true := by simpa using hcl
    have hr := runI_of (φ := fun i => (fps[i]?).getD .z) ops.toList 0 st st' fps h fun j f hj => by rw [Nat.zero_add, hj]; rfl
    have hl := loose_ok hlb hn hr
    refine any_ok hT hcall hkeep hBb hl ops.size (enumF 0 ops.toList) _ st st' a w.drew L (enumF_sorted _ _) (fun i x => ?_) (by simp) (by simp [enumF_len]) (fun j o ho hk => ?_) hI.drew
      (hF.mono (Nat.le_refl _) (Ext.drew _ _ _) (KeepLoc.drew _ _ _) (Nat.le_refl _)) hd hbw hr fun a' w' hp => hQ a' w' (hp.trans (Nat.le_refl _) (Ext.drew _ _ _) (KeepLoc.drew _ _ _) (Nat.le_refl _))
    · rw [mem_enumF]
      simp only [Nat.zero_le, true_and, Nat.sub_zero, Array.getElem?_toList]
      refine ⟨fun h => ⟨h, ?_⟩, fun h => h.1⟩
      have := (Array.getElem?_eq_some_iff.1 h).1
      simp [this]
    · have := (Array.getElem?_eq_some_iff.1 ho).1
      simp [this] at hk

theorem run_ok (hT : TysOK P C) (hcall : CallOK P C call) (hkeep : CallKeeps C call) (hm : P.follows .mixedOrders = true) (hBb : B ≤ base) (k : Nat) : ∀ (c : Code), codeOK C me c = true → ∀ (st st' : St) (e : Ex) (a : Act) (w : World) (L : Lay) (Q : Exit → Act → World → Prop),
    Inv C.glob B w0 L w st.hp → FR st.hp.length L w base st.tmps a.tmps → a.defers = ds → base ≤ w.heap.size → run C call fl me k c st = some (e, st') →
    (∀ a' w', Post C B w0 base L w st.hp.length st'.hp st'.tmps ds a' w' → Q e.to a' w') → c.wp P Q a w
  | .skip, _, st, st', e, a, w, L, Q, hI, hF, hd, hbw, h, hQ => by
    simp only [run, Option.some.injEq, Prod.mk.injEq] at h
    obtain ⟨rfl, rfl⟩ := h
    exact wp_skip (hQ _ _ ⟨L, hI, Ext.refl _ _ _, KeepLoc.refl _ _ _, Nat.le_refl _, Nat.le_refl _, hF, hd⟩)
  | .exit id, _, st, st', e, a, w, L, Q, hI, hF, hd, hbw, h, hQ => by
    simp only [run, Option.some.injEq, Prod.mk.injEq] at h
    obtain ⟨rfl, rfl⟩ := h
    exact wp_exit (hQ _ _ ⟨L, hI, Ext.refl _ _ _, KeepLoc.refl _ _ _, Nat.le_refl _, Nat.le_refl _, hF, hd⟩)
  | .ret, _, st, st', e, a, w, L, Q, hI, hF, hd, hbw, h, hQ => by
    simp only [run, Option.some.injEq, Prod.mk.injEq] at h
    obtain ⟨rfl, rfl⟩ := h
    exact wp_ret (hQ _ _ ⟨L, hI, Ext.refl _ _ _, KeepLoc.refl _ _ _, Nat.le_refl _, Nat.le_refl _, hF, hd⟩)
  | .region id ops draw, hc, st, st', e, a, w, L, Q, hI, hF, hd, hbw, h, hQ => by
    simp only [run] at h
    split at h
    · rename_i st1 fps h1
      cases hcl : (!draw || noClash fps (C.pairs me id)) with
      | false => rw [hcl] at h; cases h
      | true =>
        rw [hcl, cond_true rfl] at h
        cases h
        exact region_ok hT hcall hkeep hm hBb hc hI hF hd hbw h1 hcl hQ
    · cases h
  | .seq x y, hc, st, st', e, a, w, L, Q, hI, hF, hd, hbw, h, hQ => by
    simp only [codeOK, Bool.and_eq_true] at hc
    refine wp_seq ?_
    simp only [run] at h
    split at h
    · rename_i st1 h1
      refine run_ok hT hcall hkeep hm hBb k x hc.1 st st1 .normal a w L _ hI hF hd hbw h1 fun a1 w1 hp => ?_
      obtain ⟨L1, p1, p2, p3, p4, p5, p6, p7⟩ := hp
      exact run_ok hT hcall hkeep hm hBb k y hc.2 st1 st' e a1 w1 L1 Q p1 p6 p7 (by omega) h fun a' w' hp => hQ a' w' (hp.trans p5 p2 p3 p4)
    · rename_i hne
      refine run_ok hT hcall hkeep hm hBb k x hc.1 st st' e a w L _ hI hF hd hbw h fun a1 w1 hp => ?_
      cases e with
      | normal => exact absurd h (hne st')
      | exit id => exact hQ a1 w1 hp
      | ret => exact hQ a1 w1 hp
  | .cond c x y, hc, st, st', e, a, w, L, Q, hI, hF, hd, hbw, h, hQ => by
    simp only [codeOK, Bool.and_eq_true] at hc
    simp only [run] at h
    split at h
    · rename_i t ht
      have hv : a.eval c = .bool t := by
        have := opv_ok (ds := a.defers) hI hF ht
        obtain ⟨rt, ds'⟩ := a
        cases hv : (({ tmps := rt, defers := ds' } : Act).eval c) <;> rw [hv] at this <;> cases this
        rfl
      refine wp_cond hv ?_
      cases t with
      | true => rw [cond_true rfl] at h; rw [if_pos rfl]; exact run_ok hT hcall hkeep hm hBb k x hc.1 st st' e a w L Q hI hF hd hbw h hQ
      | false => rw [cond_false rfl] at h; rw [if_neg (by simp)]; exact run_ok hT hcall hkeep hm hBb k y hc.2 st st' e a w L Q hI hF hd hbw h hQ
    · cases h
  | .block id x, hc, st, st', e, a, w, L, Q, hI, hF, hd, hbw, h, hQ => by
    simp only [codeOK] at hc
    refine wp_block ?_
    simp only [run] at h
    split at h
    · rename_i j st1 h1
      refine run_ok hT hcall hkeep hm hBb k x hc st st1 (.exit j) a w L _ hI hF hd hbw h1 fun a1 w1 hp => ?_
      show if j = id then _ else _
      cases hj : (j == id) with
      | true =>
        rw [hj, cond_true rfl] at h; cases h
        rw [if_pos (by simpa using hj)]
        exact hQ a1 w1 hp
      | false =>
        rw [hj, cond_false rfl] at h; cases h
        rw [if_neg (by simpa using hj)]
        exact hQ a1 w1 hp
    · rename_i hne
      refine run_ok hT hcall hkeep hm hBb k x hc st st' e a w L _ hI hF hd hbw h fun a1 w1 hp => ?_
      cases e with
      | normal => exact hQ a1 w1 hp
      | exit id => exact absurd h (hne _ st')
      | ret => exact hQ a1 w1 hp
  | .loop x, hc, st, st', e, a, w, L, Q, hI, hF, hd, hbw, h, hQ => by
    simp only [codeOK] at hc
    simp only [run] at h
    refine wp_loop_rounds k ?_
    split at h
    case h_2 => cases h
    rename_i e' st2 h2
    cases h
    replace h := h2
    clear h2
    replace hQ : ∀ a' w', Post C B w0 base L w st.hp.length st2.hp st2.tmps ds a' w' → Q e.to a' w' := fun a' w' hp => hQ a' w' (by
      obtain ⟨L', p1, p2, p3, p4, p5, p6, p7⟩ := hp
      exact ⟨L', by rw [cleanSt_hp]; exact p1, p2, p3, p4, by rw [cleanSt_hp]; exact p5, by rw [cleanSt_hp]; exact p6.cleanSt _, p7⟩)
    generalize C.after me (firstReg x) = m2 at *
    revert hQ h
    generalize st2 = st'
    intro h hQ
    generalize hcm : C.loop me (firstReg x) = m at h
    have key : ∀ (n : Nat) (st : St) (a : Act) (w : World) (L : Lay), Inv C.glob B w0 L w st.hp → FR st.hp.length L w base st.tmps a.tmps → a.defers = ds → base ≤ w.heap.size → evLoop (run C call fl me k x) (cleanSt m) n st = some (e, st') →
        (∀ a' w', Post C B w0 base L w st.hp.length st'.hp st'.tmps ds a' w' → Q e.to a' w') → Code.rounds P x Q n a w := by
      intro n
      induction n with
      | zero => intro st a w L _ _ _ _ h; cases h
      | succ n ih =>
        intro st a w L hI hF hd hbw h hQ
        rw [rounds_succ]
        simp only [evLoop] at h
        have hI' : Inv C.glob B w0 L w (cleanSt m st).hp := by rw [cleanSt_hp]; exact hI
        have hF' : FR (cleanSt m st).hp.length L w base (cleanSt m st).tmps a.tmps := by rw [cleanSt_hp]; exact hF.cleanSt m
        rw [← cleanSt_hp m st] at hQ
        split at h
        · rename_i st1 h1
          refine run_ok hT hcall hkeep hm hBb k x hc (cleanSt m st) st1 .normal a w L _ hI' hF' hd hbw h1 fun a1 w1 hp => ?_
          obtain ⟨L1, p1, p2, p3, p4, p5, p6, p7⟩ := hp
          exact ih st1 a1 w1 L1 p1 p6 p7 (by omega) h fun a' w' hp => hQ a' w' (hp.trans p5 p2 p3 p4)
        · rename_i hne
          refine run_ok hT hcall hkeep hm hBb k x hc (cleanSt m st) st' e a w L _ hI' hF' hd hbw h fun a1 w1 hp => ?_
          cases e with
          | normal => exact absurd h (hne st')
          | exit id => exact hQ a1 w1 hp
          | ret => exact hQ a1 w1 hp
    exact key k st a w L hI hF hd hbw h hQ
  | .rangeFunc .., _, st, st', e, a, w, L, Q, _, _, _, _, h, _ => by simp [run] at h
  | .scope .., _, st, st', e, a, w, L, Q, _, _, _, _, h, _ => by simp [run] at h
  | .label .., _, st, st', e, a, w, L, Q, _, _, _, _, h, _ => by simp [run] at h
  | .goto .., _, st, st', e, a, w, L, Q, _, _, _, _, h, _ => by simp [run] at h
  | .refuse .., _, st, st', e, a, w, L, Q, _, _, _, _, h, _ => by simp [run] at h
end
end
section
variable {P:Program} {C:Cfg} {call:CallF} {fl:Nat} {me:FuncId}
def HPre (fl:Nat) (hp hp':List Blk):Prop:=fl≤hp'.length∧∀ b,b < fl→hp'[b]?=hp[b]?
theorem HPre.refl {fl:Nat} {hp:List Blk} (h:fl≤hp.length):HPre fl hp hp:=⟨h,fun _ _=>rfl⟩
theorem HPre.trans {fl:Nat} {a b c:List Blk} (h:HPre fl a b) (k:HPre fl b c):HPre fl a c:=⟨k.1,fun i hi=>(k.2 i hi).trans (h.2 i hi)⟩
theorem HPre.push {fl:Nat} {hp:List Blk} (h:fl≤hp.length) (x:List Blk):HPre fl hp (hp++x) :=
 ⟨by simp;omega,fun b hb=>by rw [List.getElem?_append_left (by omega)]⟩
theorem HPre.set {fl:Nat} {hp:List Blk} (h:fl≤hp.length) {b:Nat} (hb:fl≤b) (x:Blk):HPre fl hp (setAt hp b x):=by
 rw [setAt_eq]
 exact ⟨by simpa using h,fun i hi=>List.getElem?_set_ne (by omega)⟩
theorem HPre.setPush {fl:Nat} {hp:List Blk} (h:fl≤hp.length) {b:Nat} (hb:fl≤b) (x:Blk) (y:List Blk):HPre fl hp (setAt hp b x++y) :=
 (HPre.set h hb x).trans (HPre.push (by rw [setAt_eq];simpa using h) y)
def FlOK (call:CallF) (fl:Nat):Prop:=∀ f args hp v hp',call f args hp=some (v,hp')→fl≤hp.length→HPre fl hp hp'
theorem newBlk_pre {st:St} {cs:List AV} {mk:Nat→AV} {r:Res} (h:newBlk st cs mk=some r) (hfl:fl≤st.hp.length):HPre fl st.hp r.hp:=by
 simp only [newBlk,Option.some.injEq] at h
 subst h
 exact .push hfl _
theorem appendE_pre {arrM:Bool} {st:St} {t t2:TypeId} {s x:AV} {r:Res} (h:appendE C fl arrM st t t2 s x=some r) (hfl:fl≤st.hp.length):HPre fl st.hp r.hp:=by
 unfold appendE at h
 simp only [cond_eq_ite] at h
 repeat' (first | (cases h;done) | split at h)
 all_goals (cases h;first
  | exact HPre.refl hfl
  | exact HPre.push hfl _
  | (refine HPre.set hfl ?_ _;simp only [Bool.not_eq_true',Bool.not_eq_false',decide_eq_true_eq,decide_eq_false_iff_not,Bool.and_eq_true,Classical.not_not] at *;omega)
  | (refine HPre.setPush hfl ?_ _ _;simp only [Bool.not_eq_true',Bool.not_eq_false',decide_eq_true_eq,decide_eq_false_iff_not,Bool.and_eq_true,Classical.not_not] at *;omega))
theorem evOp_floor {o:Oper} {st:St} {r:Res} (hcall:FlOK call fl) (hkeep:CallKeeps C call) (h:evOp C call fl me o st=some r) (hfl:fl≤st.hp.length):HPre fl st.hp r.hp:=by
 have hF:=evOp_facts h
 have hH:HeapOut r.fp st.hp r.hp:=by obtain ⟨_,_,_,hH,_⟩:=evOp_local hkeep h;exact hH
 have same:r.fp = .z∨r.fp = .hr∨(∃ b,r.fp = .hb b)∨(∃ t,r.fp = .lr t)→HPre fl st.hp r.hp:=fun hf=>by
  have:r.hp=st.hp:=by
   rcases hf with e | e | ⟨b,e⟩ | ⟨t,e⟩ <;> (rw [e] at hH;exact hH)
  rw [this]
  exact .refl hfl
 by_cases h0:cls o=0
 ·exact same (.inl (hF.c0 h0))
 by_cases h1:cls o=1
 ·exact same (hF.c1 h1)
 unfold evOp at h
 unfold cls at h0 h1
 cases hop:o.op <;> rw [hop] at h h0 h1 <;> dsimp only at h h0 h1 <;> first
  | (exact absurd rfl h0)
  | (exact absurd rfl h1)
  | skip
 case alloc e =>
  simp only [cond_eq_ite] at h
  repeat' (first | (cases h;done) | split at h)
  ·cases h;exact .refl hfl
  ·exact newBlk_pre h hfl
 case box e x =>
  simp only [cond_eq_ite] at h
  repeat' (first | (cases h;done) | split at h)
  ·cases h;exact .refl hfl
  ·exact newBlk_pre h hfl
 case store t a x =>
  split at h
  ·unfold storeAt at h
   simp only [cond_eq_ite] at h
   repeat' (first | (cases h;done) | split at h)
   all_goals (cases h;first
    | exact HPre.refl hfl
    | (refine HPre.set hfl ?_ _;clear same hF hH hcall;simp only [decide_eq_true_eq,Bool.and_eq_true] at *;omega))
  ·cases h
 case convert s d x =>
  split at h
  ·unfold convE at h
   split at h
   ·obtain ⟨a,_,rfl⟩:=ofO_eq h;exact .refl hfl
   ·obtain ⟨a,_,rfl⟩:=ofO_eq h;exact .refl hfl
   ·simp only [cond_eq_ite] at h
    split at h
    ·split at h
     ·exact newBlk_pre h hfl
     ·obtain ⟨a,_,rfl⟩:=ofO_eq h;exact .refl hfl
    ·cases h
   ·simp only [cond_eq_ite] at h
    repeat' (first | (cases h;done) | split at h)
    all_goals (simp only [Option.map_eq_some_iff] at h;obtain ⟨_,_,rfl⟩:=h;exact .refl hfl)
   ·cases h
  ·cases h
 case buildSlice t len ps =>
  simp only [cond_eq_ite] at h
  repeat' (first | (cases h;done) | split at h)
  ·exact newBlk_pre h hfl
  ·obtain ⟨a,_,rfl⟩:=ofO_eq h;exact .refl hfl
 case makeSlice t l c =>
  simp only [cond_eq_ite] at h
  repeat' (first | (cases h;done) | split at h)
  exact newBlk_pre h hfl
 case call c =>
  split at h
  ·cases h
  split at h
  ·unfold builtinE at h
   split at h
   ·obtain ⟨a,_,rfl⟩:=ofO_eq h;exact .refl hfl
   ·obtain ⟨a,_,rfl⟩:=ofO_eq h;exact .refl hfl
   ·exact appendE_pre h hfl
   ·unfold copyE at h
    simp only [cond_eq_ite] at h
    repeat' (first | (cases h;done) | split at h)
    cases h
    (refine HPre.set hfl ?_ _;clear same hF hH hcall;simp only [decide_eq_true_eq,Bool.and_eq_true] at *;omega)
   ·unfold clearE at h
    simp only [cond_eq_ite] at h
    repeat' (first | (cases h;done) | split at h)
    ·cases h;exact .refl hfl
    ·cases h;exact .refl hfl
    ·cases h
     (refine HPre.set hfl ?_ _;clear same hF hH hcall;simp only [decide_eq_true_eq,Bool.and_eq_true] at *;omega)
   ·obtain ⟨a,_,rfl⟩:=ofO_eq h;exact .refl hfl
   ·obtain ⟨a,_,rfl⟩:=ofO_eq h;exact .refl hfl
   ·cases h
  ·split at h
   ·unfold callE at h
    split at h
    ·rename_i v hp hc
     cases h
     exact hcall _ _ _ _ _ hc hfl
    ·cases h
   ·cases h
  ·cases h
 all_goals (cases h)
theorem evOne_floor {ops:List Oper} {o:Oper} {st st':St} {f:Fp} (hcall:FlOK call fl) (hkeep:CallKeeps C call) (h:evOne C call fl me ops o st=some (st',f)) (hfl:fl≤st.hp.length):HPre fl st.hp st'.hp:=by
 unfold evOne at h
 split at h
 ·split at h
  ·rename_i r hr
   split at h
   ·cases h;exact evOp_floor hcall hkeep hr hfl
   ·cases h
  ·cases h
 ·split at h
  ·cases h;exact .refl hfl
  ·cases h
 ·cases h
theorem runOps_floor {ops:List Oper} (hcall:FlOK call fl) (hkeep:CallKeeps C call):∀ (l:List Oper) (st st':St) (fps:List Fp),runOps C call fl me ops l st=some (st',fps)→fl≤st.hp.length→HPre fl st.hp st'.hp
 | [],st,st',fps,h,hfl=>by
  simp only [runOps,Option.some.injEq,Prod.mk.injEq] at h
  rw [← h.1];exact .refl hfl
 | o::l,st,st',fps,h,hfl=>by
  simp only [runOps] at h
  split at h
  ·rename_i st1 f h1
   split at h
   ·rename_i st2 fs h2
    cases h
    have p1:=evOne_floor hcall hkeep h1 hfl
    exact p1.trans (runOps_floor hcall hkeep l st1 st' fs h2 p1.1)
   ·cases h
  ·cases h
theorem run_floor (hcall:FlOK call fl) (hkeep:CallKeeps C call) (k:Nat):∀ (c:Code) (st st':St) (e:Ex),run C call fl me k c st=some (e,st')→fl≤st.hp.length→HPre fl st.hp st'.hp
 | .skip,st,st',e,h,hfl=>by simp only [run,Option.some.injEq,Prod.mk.injEq] at h;rw [← h.2];exact .refl hfl
 | .exit id,st,st',e,h,hfl=>by simp only [run,Option.some.injEq,Prod.mk.injEq] at h;rw [← h.2];exact .refl hfl
 | .ret,st,st',e,h,hfl=>by simp only [run,Option.some.injEq,Prod.mk.injEq] at h;rw [← h.2];exact .refl hfl
 | .region id ops draw,st,st',e,h,hfl=>by
  simp only [run,cond_eq_ite] at h
  split at h
  ·rename_i st1 fps h1
   split at h
   ·cases h;exact runOps_floor hcall hkeep _ _ _ _ h1 hfl
   ·cases h
  ·cases h
 | .seq x y,st,st',e,h,hfl=>by
  simp only [run] at h
  split at h
  ·rename_i st1 h1
   have p1:=run_floor hcall hkeep k x st st1 .normal h1 hfl
   exact p1.trans (run_floor hcall hkeep k y st1 st' e h p1.1)
  ·exact run_floor hcall hkeep k x st st' e h hfl
 | .cond c x y,st,st',e,h,hfl=>by
  simp only [run] at h
  split at h
  ·rename_i t _
   cases t with
   | true=>exact run_floor hcall hkeep k x st st' e h hfl
   | false=>exact run_floor hcall hkeep k y st st' e h hfl
  ·cases h
 | .block id x,st,st',e,h,hfl=>by
  simp only [run,cond_eq_ite] at h
  split at h
  ·rename_i j st1 h1
   have p1:=run_floor hcall hkeep k x st st1 (.exit j) h1 hfl
   split at h
   ·cases h;exact p1
   ·cases h;exact p1
  ·exact run_floor hcall hkeep k x st st' e h hfl
 | .loop x,st,st',e,h,hfl=>by
  simp only [run] at h
  split at h
  case h_2=>cases h
  rename_i e' st2 h2
  cases h
  rw [cleanSt_hp]
  replace h:=h2
  clear h2
  revert h
  generalize st2=st'
  intro h
  generalize C.loop me (firstReg x)=m at h
  have key:∀ (n:Nat) (st:St),evLoop (run C call fl me k x) (cleanSt m) n st=some (e,st')→fl≤st.hp.length→HPre fl st.hp st'.hp:=by
   intro n
   induction n with
   | zero=>intro st h _;cases h
   | succ n ih =>
    intro st h hfl
    simp only [evLoop] at h
    rw [← cleanSt_hp m st] at hfl ⊢
    split at h
    ·rename_i st1 h1
     have p1:=run_floor hcall hkeep k x _ st1 .normal h1 hfl
     exact p1.trans (ih st1 h p1.1)
    ·exact run_floor hcall hkeep k x _ st' e h hfl
  exact key k st h hfl
 | .rangeFunc ..,st,st',e,h,_=>by simp [run] at h
 | .scope ..,st,st',e,h,_=>by simp [run] at h
 | .label ..,st,st',e,h,_=>by simp [run] at h
 | .goto ..,st,st',e,h,_=>by simp [run] at h
 | .refuse ..,st,st',e,h,_=>by simp [run] at h
theorem HPre.weak {fl n:Nat} {a b:List Blk} (h:HPre n a b) (hn:fl≤n):HPre fl a b:=⟨Nat.le_trans hn h.1,fun i hi=>h.2 i (Nat.lt_of_lt_of_le hi hn)⟩
theorem HPre.pre {a b:List Blk} (h:HPre a.length a b):∃ x,b=a++x:=by
 refine ⟨b.drop a.length, ?_⟩
 have:b.take a.length=a:=by
  apply List.ext_getElem?
  intro i
  by_cases hi:i < a.length
  ·rw [List.getElem?_take_of_lt hi];exact h.2 i hi
  ·rw [List.getElem?_eq_none (by have:=h.1;simp;omega),List.getElem?_eq_none (by omega)]
 conv=>lhs;rw [← List.take_append_drop a.length b]
 rw [this]
theorem evCall_both:∀ (k:Nat),(∀ fl,FlOK (evCall C k fl) fl)∧∀ fl,CallKeeps C (evCall C k fl)
 | 0=>⟨fun fl f args hp v hp' h _=>(by cases h),fun fl f args hp v hp' h _=>(by cases h)⟩
 | k + 1=>by
  obtain ⟨ih1,ih2⟩:=evCall_both k
  refine ⟨fun fl f args hp v hp' h hfl => ?_,fun fl f args hp v hp' h hkp => ?_⟩
  ·unfold evCall at h
   split at h
   ·simp only [Option.map_eq_some_iff] at h
    obtain ⟨_,_,h⟩:=h
    cases h
    exact .refl hfl
   ·split at h
    ·cases h
    ·rename_i fi hfi
     dsimp only at h
     split at h
     ·cases h
     ·rename_i e st' _ hr
      split at h
      ·cases h
      ·rename_i rs hrs
       split at h
       ·split at h
        ·cases h;exact .refl hfl
        ·cases h
       ·rename_i hk
        rw [hk] at hr
        have p:=run_floor (ih1 fl) (ih2 fl) k fi.body _ _ _ hr hfl
        simp only [cond_eq_ite] at h
        split at h
        ·cases h
        ·split at h
         ·cases h
          have hlt:∀ b,b < fl→(st'.hp.take hp.length)[b]?=st'.hp[b]?:=fun b hb=>by rw [List.getElem?_take_of_lt (by omega)]
          exact ⟨by have:=p.1;simp;omega,fun b hb=>(hlt b hb).trans (p.2 b hb)⟩
         ·cases h
       ·rename_i hk
        rw [hk] at hr
        cases h
        exact run_floor (ih1 fl) (ih2 fl) k fi.body _ _ _ hr hfl
       ·rename_i hk
        rw [hk] at hr
        cases h
        exact (run_floor (ih1 _) (ih2 _) k fi.body _ _ _ hr (Nat.le_refl _)).weak hfl
     ·cases h
  ·unfold evCall at h
   split at h
   ·simp only [Option.map_eq_some_iff] at h
    obtain ⟨_,_,h⟩:=h
    cases h
    exact ⟨[],by simp⟩
   ·rename_i he
    split at h
    ·cases h
    ·rename_i fi hfi
     dsimp only at h
     split at h
     ·cases h
     ·rename_i e st' _ hr
      split at h
      ·cases h
      ·rename_i rs hrs
       split at h
       ·split at h
        ·cases h;exact ⟨[],by simp⟩
        ·cases h
       ·rename_i hk
        unfold keepsB at hkp
        rw [he,hk] at hkp
        cases hkp
       ·rename_i hk
        unfold keepsB at hkp
        rw [he,hk] at hkp
        cases hkp
       ·rename_i hk
        rw [hk] at hr
        cases h
        exact (run_floor (ih1 _) (ih2 _) k fi.body _ _ _ hr (Nat.le_refl _)).pre
     ·cases h
theorem evCall_floor (k fl:Nat):FlOK (evCall C k fl) fl:=(evCall_both k).1 fl
theorem evCall_keeps (k fl:Nat):CallKeeps C (evCall C k fl):=(evCall_both k).2 fl
end
section
variable {P:Program} {C:Cfg}
def sealL (n:Nat) (L:Lay):Lay where
 loc b:=if b < n then L.loc b else none
 ext:=L.ext
 fam g:=if g < n then L.fam g else none
 who r o:=match L.who r o with
  | .blk b=>if b < n then .blk b else .imm
  | .spare g=>if g < n then .spare g else .none
  | x=>x
theorem sealL_imm {n:Nat} {L:Lay} {r o:Nat} (h:L.who r o = .imm):(sealL n L).who r o = .imm:=by simp only [sealL,h]
theorem sealL_loc {n:Nat} {L:Lay} {r o t:Nat} (h:L.who r o = .loc t):(sealL n L).who r o = .loc t:=by simp only [sealL,h]
theorem sealL_blk {n:Nat} {L:Lay} {r o b:Nat} (h:L.who r o = .blk b) (hb:b < n):(sealL n L).who r o = .blk b:=by simp only [sealL,h,if_pos hb]
theorem sealL_gone {n:Nat} {L:Lay} {r o b:Nat} (h:L.who r o = .blk b) (hb:¬ b < n):(sealL n L).who r o = .imm:=by simp only [sealL,h,if_neg hb]
theorem sealL_at {n:Nat} {L:Lay} {b:Nat} (hb:b < n):(sealL n L).loc b=L.loc b:=by simp only [sealL,if_pos hb]
theorem sealL_fam {n:Nat} {L:Lay} {b:Nat} (hb:b < n):(sealL n L).fam b=L.fam b:=by simp only [sealL,if_pos hb]
theorem sealL_ext (n:Nat) (L:Lay) (w:World):Ext n L w (sealL n L) w :=
 ⟨fun r o h=>⟨sealL_imm h,rfl⟩,fun b p hb hp=>⟨by rw [← sealL_at hb];exact hp,fun r o h=>sealL_blk h hb,rfl⟩,fun g F hg hF=>⟨F,by rw [← sealL_fam hg];exact hF, .inl rfl⟩⟩
theorem sealL_keep (s n:Nat) (L:Lay) (w:World):KeepLoc s L w (sealL n L) w:=fun _ _ _ _ h=>⟨sealL_loc h,rfl,rfl⟩
theorem sealL_blk' {n:Nat} {L:Lay} {r o b:Nat} (h:(sealL n L).who r o = .blk b):L.who r o = .blk b∧b < n:=by
 simp only [sealL] at h
 split at h
 ·rename_i b' h1
  split at h
  ·rename_i hb;cases h;exact ⟨h1,hb⟩
  ·cases h
 ·split at h <;> cases h
 ·rename_i h1 _;exact absurd h (h1 b)
theorem sealL_spare' {n:Nat} {L:Lay} {r o b:Nat} (h:(sealL n L).who r o = .spare b):L.who r o = .spare b∧b < n:=by
 simp only [sealL] at h
 split at h
 ·split at h <;> cases h
 ·rename_i b' h1
  split at h
  ·rename_i hb;cases h;exact ⟨h1,hb⟩
  ·cases h
 ·rename_i _ h1;exact absurd h (h1 b)
theorem seal_inv {glob:Nat→Option AV} {B:Nat} {w0 w:World} {L:Lay} {hpF hp:List Blk} (hI:Inv glob B w0 L w hpF) (hpre:∀ b,b < hp.length→hpF[b]?=hp[b]?)
  (hclo:∀ (b:Nat) cs,hp[b]?=some (.cells cs)→∀ c ∈ cs,∀ rv,VR hpF.length L w c rv→VR hp.length L w c rv):Inv glob B w0 (sealL hp.length L) w hp:=by
 have lt:∀ {b:Nat} {x},hp[b]?=some x→b < hp.length:=fun h=>(List.getElem?_eq_some_iff.1 h).1
 refine ⟨hI.below,hI.size,fun b cs hb => ?_,fun r o b h => ?_,fun g m hg => ?_,fun r o g h => ?_,fun r o h => ?_,fun b h => ?_,fun b h => ?_,fun g v hg => ?_, ?_⟩
 ·obtain ⟨p,h1,h2,h3⟩:=hI.blks b cs ((hpre b (lt hb)).trans hb)
  refine ⟨p,by rw [sealL_at (lt hb)];exact h1,h2,fun j c hj => ?_⟩
  obtain ⟨k1,k2,rv,k3,k4⟩:=h3 j c hj
  exact ⟨sealL_blk k1 (lt hb),k2,rv,k3,(hclo b cs hb c (List.mem_of_getElem? hj) rv k4).mono (Nat.le_refl _) (sealL_ext _ _ _)⟩
 ·exact hI.own r o b (sealL_blk' h).1
 ·obtain ⟨F,h1,h2,h3,h4,h5⟩:=hI.fams g m ((hpre g (lt hg)).trans hg)
  exact ⟨F,by rw [sealL_fam (lt hg)];exact h1,h2,h3,h4,fun j h6 h7=>by simp only [sealL,h5 j h6 h7,if_pos (lt hg)]⟩
 ·exact hI.spare r o g (sealL_spare' h).1
 ·simp only [sealL,hI.fresh r o h]
 ·simp only [sealL,if_neg (Nat.not_lt.2 h)]
 ·simp only [sealL,if_neg (Nat.not_lt.2 h)]
 ·exact (hI.globs g v hg).mono (Nat.le_refl _) ((sealL_ext hp.length L w).less (Nat.zero_le _))
 ·exact hI.kept
theorem mapO_back {α β:Type} {f:α→Option β} {l:List α} {r:List β} (h:mapO f l=some r) (i:Nat) (y:β) (hy:r[i]?=some y):∃ x,l[i]?=some x∧f x=some y:=by
 obtain ⟨hl,hi⟩:=mapO_eq f l r h
 have hlt:i < l.length:=by rw [← hl];exact (List.getElem?_eq_some_iff.1 hy).1
 obtain ⟨y',h1,h2⟩:=hi i _ (List.getElem?_eq_getElem hlt)
 rw [hy] at h2;cases h2
 exact ⟨_,List.getElem?_eq_getElem hlt,h1⟩
theorem shutV_cells {hp:List Blk} {n:Nat} {d:Nat} {x y:AV} (h:shutV hp n d x=some y) :
  y.cells.length=x.cells.length∧(x.one=true→y.one=true)∧∀ (j:Nat) c',y.cells[j]?=some c'→∃ c d',d'≤d∧x.cells[j]?=some c∧shutV hp n d' c=some c':=by
 have one:x.cells=[x]→y.cells=[y]→y.cells.length=x.cells.length∧∀ (j:Nat) c',y.cells[j]?=some c'→∃ c d',d'≤d∧x.cells[j]?=some c∧shutV hp n d' c=some c':=fun h1 h2=>by
  rw [h1,h2]
  refine ⟨rfl,fun j c' hj => ?_⟩
  cases j with
  | zero=>simp at hj;subst hj;exact ⟨x,d,Nat.le_refl _,rfl,h⟩
  | succ j=>simp at hj
 cases d with
 | zero=>cases h
 | succ d =>
  have h':=h
  cases x with
  | agg cs =>
   simp only [shutV,Option.map_eq_some_iff] at h
   obtain ⟨ys,hys,rfl⟩:=h
   refine ⟨(mapO_eq _ _ _ hys).1,fun h=>(by cases h),fun j c' hj => ?_⟩
   obtain ⟨c,h1,h2⟩:=mapO_back hys j c' hj
   exact ⟨c,d,by omega,h1,h2⟩
  | tup cs =>
   simp only [shutV,Option.map_eq_some_iff] at h
   obtain ⟨ys,hys,rfl⟩:=h
   obtain ⟨o1,o2⟩:=one rfl rfl
   exact ⟨o1,fun h=>(by cases h),o2⟩
  | ptr b off =>
   simp only [shutV,cond_eq_ite] at h
   split at h
   ·cases h;obtain ⟨o1,o2⟩:=one rfl rfl;exact ⟨o1,fun _=>rfl,o2⟩
   ·cases h
  | rop v =>
   simp only [shutV,Option.map_eq_some_iff] at h
   obtain ⟨_,_,rfl⟩:=h
   obtain ⟨o1,o2⟩:=one rfl rfl;exact ⟨o1,fun _=>rfl,o2⟩
  | lit sz own xs =>
   simp only [shutV] at h
   split at h
   ·cases h;obtain ⟨o1,o2⟩:=one rfl rfl;exact ⟨o1,fun _=>rfl,o2⟩
   ·cases h
  | arr sz b off len =>
   simp only [shutV,cond_eq_ite] at h
   split at h
   ·cases h;obtain ⟨o1,o2⟩:=one rfl rfl;exact ⟨o1,fun _=>rfl,o2⟩
   ·split at h
    ·simp only [Option.map_eq_some_iff] at h
     obtain ⟨_,_,rfl⟩:=h
     obtain ⟨o1,o2⟩:=one rfl rfl;exact ⟨o1,fun _=>rfl,o2⟩
    ·cases h
  | fn f a b =>
   simp only [shutV] at h
   split at h
   ·cases h;obtain ⟨o1,o2⟩:=one rfl rfl;exact ⟨o1,fun _=>rfl,o2⟩
   ·cases h
  | iface t v =>
   simp only [shutV,Option.map_eq_some_iff] at h
   obtain ⟨_,_,rfl⟩:=h
   obtain ⟨o1,o2⟩:=one rfl rfl;exact ⟨o1,fun _=>rfl,o2⟩
  | _ =>
   simp only [shutV,Option.some.injEq] at h
   subst h
   obtain ⟨o1,o2⟩:=one rfl rfl;exact ⟨o1,fun h=>h,o2⟩
theorem flat_shut {hp:List Blk} {n d:Nat}:∀ {xs ys:List AV},mapO (shutV hp n d) xs=some ys →
  ys.length=xs.length∧(∀ y ∈ ys,∃ x ∈ xs,y.cells.length=x.cells.length)∧(flat ys).length=(flat xs).length ∧
  ∀ (j:Nat) c',(flat ys)[j]?=some c'→∃ c d',d'≤d∧(flat xs)[j]?=some c∧shutV hp n d' c=some c'
 | [],ys,h=>by
  simp only [mapO,Option.some.injEq] at h
  subst h
  exact ⟨rfl,fun _ h=>(by cases h),rfl,fun j c' h=>by simp [flat] at h⟩
 | x::xs,ys,h=>by
  simp only [mapO] at h
  split at h
  ·rename_i y hy
   split at h
   ·rename_i ys' hys
    cases h
    obtain ⟨a1,_,a2⟩:=shutV_cells hy
    obtain ⟨b1,b2,b3,b4⟩:=flat_shut hys
    refine ⟨by simp [b1],fun z hz => ?_,by simp [flat,a1,b3],fun j c' hj => ?_⟩
    ·rcases List.mem_cons.1 hz with rfl | hz
     ·exact ⟨x,List.mem_cons_self ..,a1⟩
     ·obtain ⟨u,hu,he⟩:=b2 z hz
      exact ⟨u,List.mem_cons_of_mem _ hu,he⟩
    ·simp only [flat] at hj ⊢
     by_cases hlt:j < y.cells.length
     ·rw [List.getElem?_append_left hlt] at hj
      rw [List.getElem?_append_left (by omega)]
      exact a2 j c' hj
     ·rw [List.getElem?_append_right (by omega)] at hj
      rw [List.getElem?_append_right (by omega),← a1]
      exact b4 _ c' hj
   ·cases h
  ·cases h
theorem chunk_zero:∀ (n:Nat) (cs xs:List AV),chunk 0 n cs=some xs→xs.length=n∧(∀ x ∈ xs,x.cells.length=0)∧flat xs=[]
 | 0,cs,xs,h=>by simp [chunk] at h;subst h;simp [flat]
 | n + 1,cs,xs,h=>by
  simp [chunk] at h
  split at h
  ·rename_i ys hys
   cases h
   obtain ⟨a,b,c⟩:=chunk_zero n _ _ hys
   exact ⟨by simp [a],fun x hx=>by rcases List.mem_cons.1 hx with rfl | hx;rfl;exact b x hx,by simp [flat,c,AV.cells]⟩
  ·cases h
theorem shut_ok {glob:Nat→Option AV} {B:Nat} {w0 w:World} {L:Lay} {hp:List Blk} {n:Nat} (hI:Inv glob B w0 L w hp):∀ (d:Nat) (x y:AV),shutV hp n d x=some y→∀ v,VR hp.length L w x v→VR n (sealL n L) w y v:=by
 intro d
 induction d using Nat.strongRecOn with
 | _ d ih =>
 intro x y h v hv
 cases d with
 | zero=>cases h
 | succ d =>
 have ih':∀ d',d'≤d→∀ (x y:AV),shutV hp n d' x=some y→∀ v,VR hp.length L w x v→VR n (sealL n L) w y v:=fun d' hd=>ih d' (by omega)
 cases hv with
 | bool b=>simp only [shutV,Option.some.injEq] at h;subst h;exact .bool b
 | int k i=>simp only [shutV,Option.some.injEq] at h;subst h;exact .int k i
 | str l s hs=>simp only [shutV,Option.some.injEq] at h;subst h;exact .str l s hs
 | nilP=>simp only [shutV,Option.some.injEq] at h;subst h;exact .nilP
 | nilS=>simp only [shutV,Option.some.injEq] at h;subst h;exact .nilS
 | nilF=>simp only [shutV,Option.some.injEq] at h;subst h;exact .nilF
 | nilI=>simp only [shutV,Option.some.injEq] at h;subst h;exact .nilI
 | nilM=>simp only [shutV,Option.some.injEq] at h;subst h;exact .nilM
 | ptr b off a hb ha =>
  simp only [shutV,cond_eq_ite] at h
  split at h
  ·rename_i hbn
   cases h
   have hbn:b < n:=by simpa using hbn
   exact .ptr b off a hbn fun p hp=>ha p (by rw [← sealL_at hbn];exact hp)
  ·cases h
 | rop x rb ro cv h1 h2 h3 =>
  simp only [shutV,Option.map_eq_some_iff] at h
  obtain ⟨z,hz,rfl⟩:=h
  obtain ⟨a1,_,a2⟩:=shutV_cells hz
  refine .rop z rb ro cv (fun j hj => ?_) (fun j c' hj => ?_) (fun j c' hj => ?_)
  ·obtain ⟨k1,k2⟩:=h1 j (by omega)
   exact ⟨k1,sealL_imm k2⟩
  ·obtain ⟨c,d',hd,hc,hs⟩:=a2 j c' hj
   exact (shutV_cells hs).2.1 (h2 j c hc)
  ·obtain ⟨c,d',hd,hc,hs⟩:=a2 j c' hj
   exact ih' d' hd c c' hs _ (h3 j c hc)
 | lit sz own xs rb ro cap cv hc hsz h1 h2 h3 ho =>
  simp only [shutV] at h
  split at h
  ·rename_i ys hys
   cases h
   obtain ⟨a1,a2,a3,a4⟩:=flat_shut hys
   rw [← a1]
   refine .lit sz _ ys rb ro cap cv (by omega) (fun y hy => ?_) (fun j hj => ?_) (fun j c' hj => ?_) (fun j c' hj => ?_) ?_
   ·obtain ⟨x,hx,he⟩:=a2 y hy
    rw [he];exact hsz x hx
   ·obtain ⟨k1,k2⟩:=h1 j (by rw [← a1];exact hj)
    exact ⟨k1,sealL_imm k2⟩
   ·obtain ⟨c,d',hd,hcc,hs⟩:=a4 j c' hj
    exact (shutV_cells hs).2.1 (h2 j c hcc)
   ·obtain ⟨c,d',hd,hcc,hs⟩:=a4 j c' hj
    exact ih' d' hd c c' hs _ (h3 j c hcc)
   ·rw [a1]
    cases own with
    | sealed=>trivial
    | exact=>exact ho
    | fam g s =>
     simp only [cond_eq_ite]
     by_cases hg:g < n
     ·simp only [hg,decide_true,if_true]
      exact ⟨hg,fun F hF=>ho.2 F (by rw [← sealL_fam hg];exact hF)⟩
     ·simp only [hg,decide_false,Bool.false_eq_true,if_false]
      trivial
  ·cases h
 | arr sz b off len a cap hb hc ha =>
  simp only [shutV,cond_eq_ite] at h
  split at h
  ·rename_i hbn
   cases h
   have hbn:b < n:=by simpa using hbn
   refine .arr sz b off len a cap hbn hc fun p hp => ?_
   obtain ⟨k1,k2,k3⟩:=ha p (by rw [← sealL_at hbn];exact hp)
   exact ⟨k1,fun j hj=>sealL_blk (k2 j hj) hbn,k3⟩
  ·rename_i hbn
   have hbn:¬ b < n:=by simpa using hbn
   split at h
   ·rename_i xs hxs
    simp only [Option.map_eq_some_iff] at h
    obtain ⟨ys,hys,rfl⟩:=h
    simp only [elems,beq_self_eq_true,cond_true] at hxs
    split at hxs
    ·rename_i cs hcs
     obtain ⟨p,h1,h2,h3⟩:=hI.blks b cs (blkCells_eq hcs)
     obtain ⟨rfl,k2,k3⟩:=ha p h1
     obtain ⟨a1,a2,a3,a4⟩:=flat_shut hys
     have facts:xs.length=len∧(∀ x ∈ xs,x.cells.length=sz)∧(∀ (j:Nat) c,(flat xs)[j]?=some c→cs[off + j]?=some c)∧∀ j,j < len * sz→off + j < cs.length:=by
      by_cases h0:sz=0
      ·subst h0
       obtain ⟨b1,b2,b3⟩:=chunk_zero _ _ _ hxs
       exact ⟨b1,b2,fun j c hj=>by rw [b3] at hj;simp at hj,fun j hj=>by simp at hj⟩
      ·obtain ⟨b1,b2,b3,b4⟩:=chunk_ok h0 len (cs.drop off) xs (fun j c hj=>by rw [List.getElem?_drop] at hj;exact (h3 _ c hj).2.1) hxs
       refine ⟨b1,b2,fun j c hj => ?_,fun j hj => ?_⟩
       ·rw [b3,List.getElem?_take] at hj
        split at hj
        ·rw [List.getElem?_drop] at hj;exact hj
        ·cases hj
       ·simp only [List.length_drop] at b4;omega
     obtain ⟨b1,b2,b3,b4⟩:=facts
     rw [show len=ys.length by omega]
     refine .lit sz .sealed ys p.1 (p.2 + off) cap (fun j=>(w.cell? ⟨p.1,p.2 + off + j,none⟩).getD default) (by omega) (fun y hy => ?_) (fun j hj => ?_) (fun j c' hj => ?_) (fun j c' hj => ?_) trivial
     ·obtain ⟨x,hx,he⟩:=a2 y hy
      rw [he];exact b2 x hx
     ·have hlt:=b4 j (by rw [← b1,← a1];exact hj)
      obtain ⟨k1,_,rv,k4,_⟩:=h3 (off + j) _ (List.getElem?_eq_getElem hlt)
      rw [← Nat.add_assoc] at k1 k4
      exact ⟨by rw [k4];rfl,sealL_gone k1 hbn⟩
     ·obtain ⟨c,d',hd,hcc,hs⟩:=a4 j c' hj
      exact (shutV_cells hs).2.1 (h3 _ c (b3 j c hcc)).2.1
     ·obtain ⟨c,d',hd,hcc,hs⟩:=a4 j c' hj
      obtain ⟨_,_,rv,k4,k5⟩:=h3 (off + j) c (b3 j c hcc)
      rw [← Nat.add_assoc] at k4
      rw [k4]
      exact ih' d' hd c c' hs _ k5
    ·cases hxs
   ·cases h
 | fn f xs ys rx ry h1 h2 h3 h4 =>
  simp only [shutV] at h
  split at h
  ·rename_i a b ha hb
   cases h
   refine .fn f a b rx ry (by rw [h1,(mapO_eq _ _ _ ha).1]) (by rw [h2,(mapO_eq _ _ _ hb).1]) (fun i x hx => ?_) (fun i x hx => ?_)
   ·obtain ⟨z,k1,k2⟩:=mapO_back ha i x hx
    exact ih' d (Nat.le_refl _) z x k2 _ (h3 i z k1)
   ·obtain ⟨z,k1,k2⟩:=mapO_back hb i x hx
    exact ih' d (Nat.le_refl _) z x k2 _ (h4 i z k1)
  ·cases h
 | iface t x v hx =>
  simp only [shutV,Option.map_eq_some_iff] at h
  obtain ⟨z,hz,rfl⟩:=h
  exact .iface t z v (ih' d (Nat.le_refl _) x z hz v hx)
 | agg cs rc h1 h2 h3 =>
  simp only [shutV,Option.map_eq_some_iff] at h
  obtain ⟨ys,hys,rfl⟩:=h
  refine .agg ys rc (by rw [h1,(mapO_eq _ _ _ hys).1]) (fun i x hx => ?_) (fun i x hx => ?_)
  ·obtain ⟨z,k1,k2⟩:=mapO_back hys i x hx
   exact (shutV_cells k2).2.1 (h2 i z k1)
  ·obtain ⟨z,k1,k2⟩:=mapO_back hys i x hx
   exact ih' d (Nat.le_refl _) z x k2 _ (h3 i z k1)
 | tup cs rc h1 h3 =>
  simp only [shutV,Option.map_eq_some_iff] at h
  obtain ⟨ys,hys,rfl⟩:=h
  refine .tup ys rc (by rw [h1,(mapO_eq _ _ _ hys).1]) (fun i x hx => ?_)
  obtain ⟨z,k1,k2⟩:=mapO_back hys i x hx
  exact ih' d (Nat.le_refl _) z x k2 _ (h3 i z k1)
theorem all_get {α:Type} {p:α→Bool} {l:List α} (h:l.all p=true) (i:Nat) (x:α) (hx:l[i]?=some x):p x=true:=List.all_eq_true.1 h x (List.mem_of_getElem? hx)
theorem clo_cells {n d:Nat} {x:AV} (h:clo n d x=true):∀ (j:Nat) c,x.cells[j]?=some c→∃ d',d'≤d∧clo n d' c=true:=fun j c hj=>by
 cases d with
 | zero=>cases h
 | succ d =>
  cases x with
  | agg cs=>exact ⟨d,by omega,all_get h j c hj⟩
  | _ =>
   simp only [AV.cells] at hj
   cases j with
   | zero=>simp at hj;subst hj;exact ⟨d + 1,Nat.le_refl _,h⟩
   | succ j=>simp at hj
theorem flat_clo {n d:Nat}:∀ {xs:List AV},xs.all (clo n d)=true→∀ (j:Nat) c,(flat xs)[j]?=some c→∃ d',d'≤d∧clo n d' c=true
 | [],_,j,c,h=>by simp [flat] at h
 | x::xs,h,j,c,hj=>by
  simp only [List.all_cons,Bool.and_eq_true] at h
  simp only [flat] at hj
  by_cases hlt:j < x.cells.length
  ·rw [List.getElem?_append_left hlt] at hj
   exact clo_cells h.1 j c hj
  ·rw [List.getElem?_append_right (by omega)] at hj
   exact flat_clo h.2 _ c hj
theorem clo_ok {w:World} {L:Lay} {N n:Nat}:∀ (d:Nat) (x:AV),clo n d x=true→∀ v,VR N L w x v→VR n L w x v:=by
 intro d
 induction d using Nat.strongRecOn with
 | _ d ih =>
 intro x h v hv
 cases d with
 | zero=>cases h
 | succ d =>
 have ih':∀ d',d'≤d→∀ (x:AV),clo n d' x=true→∀ v,VR N L w x v→VR n L w x v:=fun d' hd=>ih d' (by omega)
 cases hv with
 | bool b=>exact .bool b
 | int k i=>exact .int k i
 | str l s hs=>exact .str l s hs
 | nilP=>exact .nilP
 | nilS=>exact .nilS
 | nilF=>exact .nilF
 | nilI=>exact .nilI
 | nilM=>exact .nilM
 | ptr b off a hb ha=>exact .ptr b off a (by simpa [clo] using h) ha
 | rop x rb ro cv h1 h2 h3 =>
  refine .rop x rb ro cv h1 h2 fun j c hj => ?_
  obtain ⟨d',hd,hc⟩:=clo_cells (show clo n d x=true from h) j c hj
  exact ih' d' hd c hc _ (h3 j c hj)
 | lit sz own xs rb ro cap cv hc hsz h1 h2 h3 ho =>
  simp only [clo,Bool.and_eq_true] at h
  refine .lit sz own xs rb ro cap cv hc hsz h1 h2 (fun j c hj => ?_) ?_
  ·obtain ⟨d',hd,hcc⟩:=flat_clo h.2 j c hj
   exact ih' d' hd c hcc _ (h3 j c hj)
  ·cases own with
   | sealed=>trivial
   | exact=>exact ho
   | fam g s=>exact ⟨by simpa using h.1,ho.2⟩
 | arr sz b off len a cap hb hc ha=>exact .arr sz b off len a cap (by simpa [clo] using h) hc ha
 | fn f xs ys rx ry h1 h2 h3 h4 =>
  simp only [clo,Bool.and_eq_true] at h
  exact .fn f xs ys rx ry h1 h2 (fun i x hx=>ih' d (Nat.le_refl _) x (all_get h.1 i x hx) _ (h3 i x hx)) (fun i x hx=>ih' d (Nat.le_refl _) x (all_get h.2 i x hx) _ (h4 i x hx))
 | iface t x v hx=>exact .iface t x v (ih' d (Nat.le_refl _) x h v hx)
 | agg cs rc h1 h2 h3=>exact .agg cs rc h1 h2 fun i x hx=>ih' d (Nat.le_refl _) x (all_get h i x hx) _ (h3 i x hx)
 | tup cs rc h1 h3=>exact .tup cs rc h1 fun i x hx=>ih' d (Nat.le_refl _) x (all_get h i x hx) _ (h3 i x hx)
theorem clo_up {n:Nat}:∀ {d e:Nat} {x:AV},clo n d x=true→d≤e→clo n e x=true
 | 0,_,_,h,_=>by cases h
 | _ + 1,0,_,_,h=>by omega
 | d + 1,e + 1,x,h,he=>by
  have al:∀ xs:List AV,xs.all (clo n d)=true→xs.all (clo n e)=true:=fun xs hx=>by
   rw [List.all_eq_true] at *
   exact fun y hy=>clo_up (hx y hy) (by omega)
  cases x with
  | rop y=>exact clo_up (x:=y) (d:=d) (e:=e) h (by omega)
  | lit sz own xs =>
   simp only [clo,Bool.and_eq_true] at *
   exact ⟨h.1,al _ h.2⟩
  | fn f a b =>
   simp only [clo,Bool.and_eq_true] at *
   exact ⟨al _ h.1,al _ h.2⟩
  | iface t y=>exact clo_up (x:=y) (d:=d) (e:=e) h (by omega)
  | agg cs=>exact al _ h
  | tup cs=>exact al _ h
  | _=>exact h
mutual
theorem cloA_fuel {n:Nat}:∀ (x:AV),cloA n x=true→∃ d,clo n d x=true
 | .ptr b o,h=>⟨1,by simpa only [clo,cloA] using h⟩
 | .rop x,h=>by
  rw [cloA] at h
  obtain ⟨d,hd⟩:=cloA_fuel x h
  exact ⟨d + 1,hd⟩
 | .lit sz own xs,h=>by
  rw [cloA,Bool.and_eq_true] at h
  obtain ⟨d,hd⟩:=cloAs_fuel xs h.2
  refine ⟨d + 1, ?_⟩
  simp only [clo,Bool.and_eq_true]
  exact ⟨by cases own <;> first | rfl | exact h.1,hd⟩
 | .arr sz b o l,h=>⟨1,by simpa only [clo,cloA] using h⟩
 | .fn f a b,h=>by
  rw [cloA,Bool.and_eq_true] at h
  obtain ⟨d,hd⟩:=cloAs_fuel a h.1
  obtain ⟨e,he⟩:=cloAs_fuel b h.2
  have al:∀ (d':Nat) (xs:List AV),d'≤d + e→xs.all (clo n d')=true→xs.all (clo n (d + e))=true:=fun d' xs hd' hx=>by
   rw [List.all_eq_true] at *
   exact fun y hy=>clo_up (hx y hy) hd'
  refine ⟨d + e + 1, ?_⟩
  simp only [clo,Bool.and_eq_true]
  exact ⟨al d a (by omega) hd,al e b (by omega) he⟩
 | .iface t x,h=>by
  rw [cloA] at h
  obtain ⟨d,hd⟩:=cloA_fuel x h
  exact ⟨d + 1,hd⟩
 | .agg cs,h=>by
  rw [cloA] at h
  obtain ⟨d,hd⟩:=cloAs_fuel cs h
  exact ⟨d + 1,hd⟩
 | .tup cs,h=>by
  rw [cloA] at h
  obtain ⟨d,hd⟩:=cloAs_fuel cs h
  exact ⟨d + 1,hd⟩
 | .bool b,_=>⟨1,rfl⟩
 | .int k i,_=>⟨1,rfl⟩
 | .str s,_=>⟨1,rfl⟩
 | .nilP,_=>⟨1,rfl⟩
 | .nilS,_=>⟨1,rfl⟩
 | .nilF,_=>⟨1,rfl⟩
 | .nilI,_=>⟨1,rfl⟩
 | .nilM,_=>⟨1,rfl⟩
theorem cloAs_fuel {n:Nat}:∀ (xs:List AV),cloAs n xs=true→∃ d,xs.all (clo n d)=true
 | [],_=>⟨0,rfl⟩
 | x::xs,h=>by
  rw [cloAs,Bool.and_eq_true] at h
  obtain ⟨d,hd⟩:=cloA_fuel x h.1
  obtain ⟨e,he⟩:=cloAs_fuel xs h.2
  refine ⟨d + e, ?_⟩
  rw [List.all_cons,Bool.and_eq_true]
  refine ⟨clo_up hd (by omega), ?_⟩
  rw [List.all_eq_true] at *
  exact fun y hy=>clo_up (he y hy) (by omega)
end
theorem cloAs_mem {n:Nat}:∀ {xs:List AV},cloAs n xs=true↔∀ x ∈ xs,cloA n x=true
 | []=>by simp [cloAs]
 | x::xs=>by rw [cloAs,Bool.and_eq_true,cloAs_mem (xs:=xs)];simp
end
section
variable {P:Program} {C:Cfg}
theorem results_list {B base:Nat} {w0 w:World} {L:Lay} {st:St} {rt:Array Value} (hT:TysOK P C) (hI:Inv C.glob B w0 L w st.hp) (hF:FR st.hp.length L w base st.tmps rt) :
  ∀ (rv:List ResultVar) (rs:List AV),resultsE C st rv=some rs→∃ vs:List Value,(List.mapM (fun x:ResultVar=>match x with
   | .tmp t=>(pure (rt.getD t undef):Sem Value)
   | .cell a t=>do loadVar t (← asAddr (rt.getD a undef))) rv).run P w = .ok vs w∧CR st.hp.length L w rs vs
 | [],rs,h=>by
  simp only [resultsE,Option.some.injEq] at h
  subst h
  exact ⟨[],by simp,rfl,fun i x v hx=>by simp at hx⟩
 | .tmp t::rv,rs,h=>by
  simp only [resultsE,getAt_eq] at h
  split at h
  ·rename_i x hx
   split at h
   ·rename_i xs hxs
    cases h
    obtain ⟨vs,h1,h2,h3⟩:=results_list hT hI hF rv xs hxs
    refine ⟨rt.getD t undef::vs,by simp only [List.mapM_cons,Sem.run_bind,Sem.run_pure,Result.andThen_ok,h1],by simp [h2],fun i y v hy hv => ?_⟩
    cases i with
    | zero=>simp only [List.getElem?_cons_zero,Option.some.injEq] at hy hv;subst hy;subst hv;exact hF.slot t _ hx
    | succ i=>simp only [List.getElem?_cons_succ] at hy hv;exact h3 i y v hy hv
   ·cases h
  ·cases h
 | .cell a t::rv,rs,h=>by
  simp only [resultsE] at h
  split at h
  ·rename_i tv htv
   split at h
   ·rename_i x t' hp' fp' hl
    split at h
    ·rename_i xs hxs
     cases h
     obtain ⟨vs,h1,h2,h3⟩:=results_list hT hI hF rv xs hxs
     obtain ⟨_,_,y,u,k1,k2,k3⟩:=loadAt_ok hT hI hF hl (opnd_ok (ds:=[]) hI hF htv)
     cases k1
     have hrun:(do loadVar t (← asAddr (rt.getD a undef)):Sem Value).run P w = .ok u w:=by
      have k2:(do loadVar t (← Instr.sureAddr (rt.getD a undef)):Sem Value).run P w = .ok u w:=k2
      generalize rt.getD a undef=va at k2
      cases va with
      | pointer p =>
       cases p with
       | some p=>exact k2
       | none=>cases k2
      | _=>cases k2
     refine ⟨u::vs,by rw [List.mapM_cons,Sem.run_bind];dsimp only;rw [hrun];simp only [Result.andThen_ok,Sem.run_bind,h1,Sem.run_pure],by simp [h2],fun i y v hy hv => ?_⟩
     cases i with
     | zero=>simp only [List.getElem?_cons_zero,Option.some.injEq] at hy hv;subst hy;subst hv;exact k3
     | succ i=>simp only [List.getElem?_cons_succ] at hy hv;exact h3 i y v hy hv
    ·cases h
   ·cases h
  ·cases h
theorem results_ok {B base:Nat} {w0 w:World} {L:Lay} {st:St} {rt:Array Value} (hT:TysOK P C) (hI:Inv C.glob B w0 L w st.hp) (hF:FR st.hp.length L w base st.tmps rt) {fn:Func} {rs:List AV}
  (h:resultsE C st fn.results.toList=some rs):∃ rv,(results fn rt).run P w = .ok rv w∧VR st.hp.length L w (one rs) rv:=by
 obtain ⟨vs,h1,h2,h3⟩:=results_list hT hI hF _ rs h
 refine ⟨if h:vs.toArray.size=1 then vs.toArray[0] else .tuple vs.toArray, ?_, ?_⟩
 ·unfold results
  rw [Array.mapM_eq_mapM_toList,Sem.run_bind,Sem.run_map]
  exact (congrArg (fun z:Result (List Value)=>(z.andThen fun a w'=>Result.ok a.toArray w').andThen fun a w'=>Sem.run P (pure (if h:a.size=1 then a[0] else Value.tuple a)) w') h1).trans (by rw [Result.andThen_ok,Result.andThen_ok,Sem.run_pure])
 ·cases rs with
  | nil =>
   have:vs=[]:=List.eq_nil_of_length_eq_zero h2
   subst this
   exact .tup [] #[] rfl fun i x hx=>by simp at hx
  | cons x xs =>
   cases xs with
   | nil =>
    match vs,h2,h3 with
    | [v],_,h3=>exact h3 0 x v rfl rfl
   | cons y ys =>
    match vs,h2,h3 with
    | v::u::vs,h2,h3 =>
     refine .tup _ _ (by simpa using h2) fun i z hz => ?_
     have hlt:i < (v::u::vs).length:=by rw [h2];exact (List.getElem?_eq_some_iff.1 hz).1
     refine h3 i z _ hz ?_
     rw [List.getElem?_eq_getElem hlt]
     simp at hlt
     simp [Array.getD,hlt]
structure TabOK (P:Program) (C:Cfg):Prop where
 ty:TysOK P C
 ord:P.follows .mixedOrders=true
 code : ∀ f fi, C.code f = some fi → ∃ fn, P.funcs[f]? = some fn ∧ fn.body = some fi.body ∧ fn.ntmps = fi.ntmps ∧ fn.results.toList = fi.results ∧ (fn.name == "runtime.NumGoroutine") = false ∧ codeOK C f fi.body = true
 ext:∀ f e,C.ext f=some e→∀ args v hp,e args=some v→∀ B w0 L w (rargs:List Value),Inv C.glob B w0 L w hp→CR hp.length L w args rargs→FCalls P f rargs.toArray w (CallPost C B w0 L w hp.length v hp)
theorem fcalls_of {f : FuncId} {fn : Func} {c : Code} {args : Array Value} {w : World} {R : Ending → World → Prop} (hf : P.funcs[f]? = some fn) (hb : fn.body = some c) (hn : (fn.name == "runtime.NumGoroutine") = false)
  (h:c.wp P (bodyPost P fn R) { tmps:=args++Array.replicate (fn.ntmps - args.size) undef,defers:=[] } w):FCalls P f args w R:=by
 unfold FCalls
 have:(callFunc f args).run P w = .ok (.enter f args) w:=by
  have hn' : ¬ fn.name = "runtime.NumGoroutine" := by simpa using hn
  unfold callFunc
  simp [hf,hb,hn']
 rw [this]
 exact calls_of_wp hf hb h
theorem frame_ok {n:Nat} {L:Lay} {w:World} {base:Nat} {args:List AV} {rargs:List Value} (h:CR n L w args rargs) (m:Nat) :
  FR n L w base (args.map .v++List.replicate (m - args.length) .sk) (rargs.toArray++Array.replicate (m - rargs.toArray.size) undef):=by
 obtain ⟨h1,h2⟩:=h
 have hsz:rargs.toArray.size=args.length:=by simpa using h1
 refine ⟨by simp [h1],fun i x hx => ?_,fun i t off hi => ?_⟩
 ·by_cases hlt:i < args.length
  ·rw [List.getElem?_append_left (by simpa using hlt)] at hx
   simp only [List.getElem?_map,List.getElem?_eq_getElem hlt,Option.map_some,Option.some.injEq] at hx
   subst hx
   have hlr:i < rargs.length:=by omega
   have:(rargs.toArray++Array.replicate (m - rargs.toArray.size) undef).getD i undef=rargs[i]:=by
    rw [Array.getD_eq_getD_getElem?,Array.getElem?_append_left (by simpa using hlr)]
    simp [hlr]
   show VR _ _ _ _ _
   rw [this]
   exact h2 i _ _ (List.getElem?_eq_getElem hlt) (List.getElem?_eq_getElem hlr)
  ·rw [List.getElem?_append_right (by simpa using hlt)] at hx
   have:=List.eq_of_mem_replicate (List.mem_of_getElem? hx)
   subst this
   show _=undef
   rw [Array.getD_eq_getD_getElem?,Array.getElem?_append_right (by omega),Array.getElem?_replicate]
   split <;> rfl
 ·by_cases hlt:i < args.length
  ·rw [List.getElem?_append_left (by simpa using hlt)] at hi
   simp only [List.getElem?_map,List.getElem?_eq_getElem hlt,Option.map_some,Option.some.injEq] at hi
   cases hi
  ·rw [List.getElem?_append_right (by simpa using hlt)] at hi
   have:=List.eq_of_mem_replicate (List.mem_of_getElem? hi)
   cases this
theorem evCall_ok (hT:TabOK P C):∀ (k fl:Nat),CallOK P C (evCall C k fl)
 | 0,fl=>fun f args hp v hp' h=>by cases h
 | k + 1,fl=>fun f args hp v hp' h B w0 L w rargs hI hA=>by
  unfold evCall at h
  split at h
  ·rename_i e he
   simp only [Option.map_eq_some_iff] at h
   obtain ⟨v',hv,h⟩:=h
   cases h
   exact hT.ext f e he args v hp hv B w0 L w rargs hI hA
  ·split at h
   ·cases h
   ·rename_i fi hfi
    obtain ⟨fn,hf,hb,hn,hr,hname,hc⟩:=hT.code f fi hfi
    dsimp only at h
    split at h
    ·cases h
    ·rename_i e st' hne hrun
     split at h
     ·cases h
     ·rename_i rs hrs
      refine fcalls_of hf hb hname ?_
      rw [hn]
      refine run_ok (B:=B) (base:=w.heap.size) (w0:=w0) (ds:=[]) hT.ty (evCall_ok hT k _) (evCall_keeps k _) hT.ord hI.size k fi.body hc _ st' e _ w L _ hI (frame_ok hA fi.ntmps) rfl (Nat.le_refl _) hrun fun a' w' hp => ?_
      obtain ⟨L',p1,p2,p3,p4,p5,p6,p7⟩:=hp
      rw [← hr] at hrs
      obtain ⟨rv,q1,q2⟩:=results_ok hT.ty p1 p6 hrs
      have fin:∀ L'' (v:AV) (hp':List Blk),Inv C.glob B w0 L'' w' hp'→Ext hp.length L w L'' w'→KeepLoc w.heap.size L w L'' w'→hp.length≤hp'.length→VR hp'.length L'' w' v rv→bodyPost P fn (CallPost C B w0 L w hp.length v hp') e.to a' w':=fun L'' v hp' k1 k2 k3 k4 k5=>by
       have:bodyPost P fn (CallPost C B w0 L w hp.length v hp') .normal a' w':=⟨p7,rv,q1,rv,L'',rfl,k1,k2,k3,p4,k4,k5⟩
       cases e with
       | normal=>exact this
       | ret=>exact this
       | exit id=>exact absurd rfl (hne id)
      split at h
      ·rename_i hk
       rw [hk] at hrun
       have hfl:=run_floor (evCall_floor k hp.length) (evCall_keeps k hp.length) k fi.body _ _ _ hrun (Nat.le_refl _)
       split at h
       ·rename_i v' hv
        cases h
        refine fin (sealL hp.length L') _ hp (seal_inv p1 hfl.2 fun b cs hb' c hcm rv' hv' => ?_) (p2.trans (Nat.le_refl _) (sealL_ext _ _ _)) (p3.trans (Nat.le_refl _) (sealL_keep _ _ _ _)) (Nat.le_refl _) (shut_ok p1 _ _ _ hv _ q2)
        obtain ⟨i,hi⟩:=List.getElem?_of_mem hcm
        obtain ⟨_,_,_,hl⟩:=hI.blks b cs hb'
        obtain ⟨_,_,rv0,_,hv0⟩:=hl i c hi
        exact (hv'.restrict hv0)
       ·cases h
      ·simp only [cond_eq_ite] at h
       split at h
       ·cases h
       ·rename_i hcl
        split at h
        ·rename_i v' hv
         cases h
         have hlen:(st'.hp.take hp.length).length=hp.length:=by
          have:hp.length≤st'.hp.length:=p5
          simp;omega
         have:=seal_inv (hp:=st'.hp.take hp.length) p1 (fun b hb'=>by rw [List.getElem?_take_of_lt (by omega)]) fun b cs hb' c hcm rv' hv'=>by
          rw [hlen]
          have hall:cloH hp.length (st'.hp.take hp.length)=true:=by simpa using hcl
          unfold cloH at hall
          have:=all_get hall b _ hb'
          obtain ⟨d,hd⟩:=cloA_fuel c (cloAs_mem.1 (show cloAs hp.length cs=true from this) c hcm)
          exact clo_ok d c hd _ hv'
         rw [hlen] at this
         exact fin (sealL hp.length L') _ _ this (p2.trans (Nat.le_refl _) (sealL_ext _ _ _)) (p3.trans (Nat.le_refl _) (sealL_keep _ _ _ _)) (by omega) (by rw [hlen];exact shut_ok p1 _ _ _ hv _ q2)
        ·cases h
      ·cases h
       exact fin L' _ _ p1 p2 p3 p5 q2
      ·cases h
       exact fin L' _ _ p1 p2 p3 p5 q2
    ·cases h
end
section
variable {P:Program} {C:Cfg}
def lay0 (w:World):Lay where
 loc _:=none
 ext _:=0
 fam _:=none
 who r _:=if r < w.heap.size then .imm else .none
def GlobOK (w:World) (g:Nat) (v:AV):Prop:=VR 0 (lay0 w) w (.rop v) (.pointer (some ⟨g,0,none⟩))∧∃ cs t q,w.heap[g]?=some (.cells cs t q)∧cs.size=v.cells.length
theorem glob_lt {w:World} {g:Nat} {o:Obj} (h:w.heap[g]?=some o):g < w.heap.size:=by
 rcases Nat.lt_or_ge g w.heap.size with h' | h'
 ·exact h'
 ·rw [Array.getElem?_eq_none h'] at h;cases h
theorem inv0 {w:World} {glob:Nat→Option AV} (hg:∀ g v,glob g=some v→GlobOK w g v):Inv glob w.heap.size w (lay0 w) w []:=by
 refine ⟨Below.refl _ _,Nat.le_refl _,fun b cs h=>by simp at h,fun r o b h => ?_,fun g m h=>by simp at h,fun r o g h => ?_,fun r o h => ?_,fun _ _=>rfl,fun _ _=>rfl,fun g v h=>(hg g v h).1,fun g v h => ?_⟩
 ·simp only [lay0] at h;split at h <;> cases h
 ·simp only [lay0] at h;split at h <;> cases h
 ·simp only [lay0,if_neg (Nat.not_lt.2 h)]
 ·obtain ⟨_,cs,t,q,h1,h2⟩:=hg g v h
  exact ⟨glob_lt h1,cs,t,q,h1,h2⟩
theorem imm0 {w:World} {r o:Nat} {v:Value} (h:w.cell? ⟨r,o,none⟩=some v):(lay0 w).who r o = .imm:=by
 have:r < w.heap.size:=by
  rcases Nat.lt_or_ge r w.heap.size with h' | h'
  ·exact h'
  ·exfalso
   simp [World.cell?,Array.getElem?_eq_none h'] at h
 simp only [lay0,if_pos this]
theorem entry (hT:TabOK P C) {f:FuncId} {args:List AV} {k fl:Nat} {v:AV} {hp':List Blk} {w:World} {rargs:List Value} (hf:(C.code f).isSome=true) (hg:∀ g v,C.glob g=some v→GlobOK w g v)
  (h:evCall C k fl f args []=some (v,hp')) (hA:CR 0 (lay0 w) w args rargs):Calls P f rargs.toArray w fun e w'=>∃ rv L',e = .returned rv∧VR hp'.length L' w' v rv∧Below w.heap.size w w':=by
 have:=evCall_ok hT k fl f args [] v hp' h w.heap.size w (lay0 w) w rargs (inv0 hg) hA
 obtain ⟨fi,hf⟩:=Option.isSome_iff_exists.1 hf
 obtain ⟨fn,hfn,hb,_,_,hn,_⟩:=hT.code f fi hf
 unfold FCalls at this
 have he:(callFunc f rargs.toArray).run P w = .ok (.enter f rargs.toArray) w:=by
  have hn' : ¬ fn.name = "runtime.NumGoroutine" := by simpa using hn
  unfold callFunc
  simp [hfn,hb,hn']
 rw [he] at this
 refine Calls.mono this fun e w' hp => ?_
 obtain ⟨rv,L',h1,h2,_,_,_,_,h3⟩:=hp
 exact ⟨rv,L',h1,h3,h2.below⟩
theorem entry_true (hT:TabOK P C) {f:FuncId} {args:List AV} {k fl:Nat} {hp':List Blk} {w:World} {rargs:List Value} (hf:(C.code f).isSome=true) (hg:∀ g v,C.glob g=some v→GlobOK w g v)
  (h:evCall C k fl f args []=some (.bool true,hp')) (hA:CR 0 (lay0 w) w args rargs):Calls P f rargs.toArray w fun e w'=>e = .returned (.bool true)∧Below w.heap.size w w':=by
 refine Calls.mono (entry hT hf hg h hA) fun e w' hp => ?_
 obtain ⟨rv,L',h1,h2,h3⟩:=hp
 cases h2
 exact ⟨h1,h3⟩
theorem CR.nil {n:Nat} {L:Lay} {w:World}:CR n L w [] []:=⟨rfl,fun i x v h=>by simp at h⟩
theorem CR.cons {n:Nat} {L:Lay} {w:World} {x:AV} {v:Value} {xs:List AV} {vs:List Value} (h:VR n L w x v) (k:CR n L w xs vs):CR n L w (x::xs) (v::vs) :=
 ⟨by simp [k.1],fun i y u hy hu=>by
  cases i with
  | zero=>simp at hy hu;subst hy;subst hu;exact h
  | succ i=>simp at hy hu;exact k.2 i y u hy hu⟩
end
section
variable {P:Program}
def at2 {α:Type} (t:List (List α)) (i:Nat):Option α :=
 match getAt t (i / 16) with
 | some r=>getAt r (i % 16)
 | none=>none
def FI.of (f:Func):Option FI :=
 match f.body with
 | some b=>some ⟨f.ntmps,f.results.toList,b⟩
 | none=>none
def tyAt (tys:List (List (Option TI))) (t:Nat):Option TI :=
 match at2 tys t with
 | some x=>x
 | none=>none
def fnAt (fns:List (List (Option FI))) (f:Nat):Option FI :=
 match at2 fns f with
 | some x=>x
 | none=>none
def lookN {α:Type} (r:Nat):List (Nat × α)→Option α
 | []=>none
 | (k,a)::l=>bif Nat.beq k r then some a else lookN r l
def mkCfg (n m:Nat) (tys:List (List (Option TI))) (fns:List (List (Option FI))) (locs:List (List Nat)) (loops afters:List (List (List (Nat × Nat)))) (prs:List (List (List (Nat × List (Nat × Nat)))))
  (kinds:List (List Kind)) (arrs:List (List Bool)) (glob:Nat→Option AV) (ext:FuncId→Option (List AV→Option AV)) (arrb:FuncId→Bool:=fun _=>false):Cfg where
 arrB:=arrb
 ty t:=bif Nat.blt t n then tyAt tys t else none
 code f:=bif Nat.blt f m then fnAt fns f else none
 glob:=glob
 ext:=ext
 isLoc f:=match at2 locs f with | some x=>x | none=>0
 loop f r:=match at2 loops f with | some l=>lookN r l | none=>none
 after f r:=match at2 afters f with | some l=>lookN r l | none=>none
 pairs f r:=match at2 prs f with | some l=>(match lookN r l with | some x=>x | none=>[]) | none=>[]
 kind f:=match at2 kinds f with | some x=>x | none => .pure
 arrF f:=match at2 arrs f with | some x=>x | none=>false
theorem range_map {α:Type} {f g:Nat→α} {n:Nat} (h:(List.range n).map f=(List.range n).map g) (i:Nat) (hi:i < n):f i=g i:=by
 have:=congrArg (fun l=>l[i]?) h
 simpa [hi] using this
theorem blt_lt {a b:Nat} (h:Nat.blt a b=true):a < b:=Nat.le_of_ble_eq_true h
theorem mkTab {n m:Nat} {tys:List (List (Option TI))} {fns:List (List (Option FI))} {locs:List (List Nat)} {loops afters:List (List (List (Nat × Nat)))} {prs:List (List (List (Nat × List (Nat × Nat))))} {kinds:List (List Kind)} {arrs:List (List Bool)} {glob:Nat→Option AV} {ext:FuncId→Option (List AV→Option AV)} {arrb:FuncId→Bool}
  (hty:(List.range n).map (tyAt tys)=(List.range n).map (tiOf P))
  (hfn:(List.range m).map (fnAt fns)=(List.range m).map fun f=>match P.funcs[f]? with | some fn=>FI.of fn | none=>none)
  (hok:(List.range m).all (fun f=>match P.funcs[f]? with
   | some fn => !(fn.name == "runtime.NumGoroutine") && (match FI.of fn with | some fi => codeOK (mkCfg n m tys fns locs loops afters prs kinds arrs glob ext arrb) f fi.body | none => true)
   | none=>true)=true)
  (hord:P.follows .mixedOrders=true)
  (hext:∀ f e,ext f=some e→∀ args v hp,e args=some v→∀ B w0 L w (rargs:List Value),Inv glob B w0 L w hp→CR hp.length L w args rargs→FCalls P f rargs.toArray w (CallPost (mkCfg n m tys fns locs loops afters prs kinds arrs glob ext arrb) B w0 L w hp.length v hp)) :
  TabOK P (mkCfg n m tys fns locs loops afters prs kinds arrs glob ext arrb):=by
 refine ⟨fun t ti h => ?_,hord,fun f fi h => ?_,hext⟩
 ·simp only [mkCfg,cond_eq_ite] at h
  split at h
  ·rename_i hlt
   rw [range_map hty t (blt_lt hlt)] at h
   exact tiOf_ok h
  ·cases h
 ·have hc:=h
  simp only [mkCfg,cond_eq_ite] at h
  split at h
  ·rename_i hlt
   rw [range_map hfn f (blt_lt hlt)] at h
   have:=List.all_eq_true.1 hok f (List.mem_range.2 (blt_lt hlt))
   cases hf:P.funcs[f]? with
   | none=>rw [hf] at h;cases h
   | some fn =>
    rw [hf] at h this
    dsimp only at h this
    rw [h] at this
    simp only [Bool.and_eq_true,Bool.not_eq_true'] at this
    unfold FI.of at h
    split at h
    ·rename_i b hb
     cases h
     exact ⟨fn,rfl,hb,rfl,rfl,this.1,this.2⟩
    ·cases h
  ·cases h
end
section
variable {P : Program} {C : Cfg} {call : CallF} {fl : Nat} {me : FuncId}

/-! ### one way through a code: where a step hangs on what is not known, what it comes to is told, and asked -/
inductive Ora where
  /-- an operation's value -/
  | val (v : AV)
  /-- a call's value, and the heap behind it -/
  | res (v : AV) (hp : List Blk)
  /-- the value of a reading, of an append, .. and the heap behind it -/
  | mem (v : AV) (hp : List Blk) (fp : Fp)
  /-- the heap behind a store -/
  | sto (hp : List Blk) (fp : Fp)
  /-- a loop's end -/
  | loop (e : Ex) (st : St)

def find2 (a b : Nat) : List (Nat × Nat × Ora) → Option Ora
  | [] => none
  | (i, j, o) :: l => bif Nat.beq i a && Nat.beq j b then some o else find2 a b l

/-- what an operation's value is asked to be -/
def askOp (C : Cfg) (call : CallF) (fl : Nat) (me : FuncId) (o : Oper) (st : St) (v : AV) : Prop :=
  match o.op with
  | .binOp op t x y _ => match opv C st.tmps x, opv C st.tmps y with
    | some a, some b => binE C op t (isCst x || isCst y) a b = some v
    | _, _ => False
  | .unOp op _ x => match opv C st.tmps x with
    | some a => unE op a = some v
    | none => False
  | .indexAddr t x i => match opnd C st.tmps x, opv C st.tmps i with
    | some a, some (.int _ n) => indexAddr C t a n = some (.v v)
    | _, _ => False
  | .index t x i => match opv C st.tmps x, opv C st.tmps i with
    | some a, some (.int _ n) => indexE C t a n = some v
    | _, _ => False
  | .extract x i => match opv C st.tmps x with
    | some (.tup vs) => getAt vs i = some v
    | _ => False
  | .move x => opv C st.tmps x = some v
  | .assign x => opv C st.tmps x = some v
  | .field t x f => match opv C st.tmps x with
    | some (.agg cs) => match field C t f with
      | some (off, ti) => part ti cs off = some v
      | none => False
    | _ => False
  | _ => evOp C call fl me o st = some ⟨.v v, st.tmps, st.hp, .z⟩

theorem opv_nd {tmps : List TV} {x : Operand} {v : AV} (h : opv C tmps x = some v) : opnd C tmps x = some (.v v) := by
  unfold opv at h
  split at h
  · rename_i a ha; cases h; exact ha
  · cases h
theorem askOp_ok {o : Oper} {st : St} {v : AV} (h : askOp C call fl me o st v) : evOp C call fl me o st = some ⟨.v v, st.tmps, st.hp, .z⟩ := by
  unfold askOp at h
  split at h
  · rename_i op t x y _ hop
    split at h
    · rename_i a b ha hb
      unfold evOp
      simp only [hop, ha, hb, h, ofO, Option.map_some]
    · cases h
  · rename_i op _ x hop
    split at h
    · rename_i a ha
      unfold evOp
      simp only [hop, ha, h, ofO, Option.map_some]
    · cases h
  · rename_i t x i hop
    split at h
    · rename_i a k n ha hn
      unfold evOp
      simp only [hop, ha, hn, h, pureR, Option.bind_some]
    · cases h
  · rename_i t x i hop
    split at h
    · rename_i a k n ha hn
      unfold evOp
      simp only [hop, ha, hn, h, ofO, Option.map_some]
    · cases h
  · rename_i x i hop
    split at h
    · rename_i vs ha
      unfold evOp
      simp only [hop, ha, h, ofO, Option.map_some]
    · cases h
  · rename_i x hop
    unfold evOp
    simp only [hop, opv_nd h, Option.bind_some, pureR]
  · rename_i x hop
    unfold evOp
    simp only [hop, opv_nd h, Option.bind_some, pureR]
  · rename_i t x f hop
    split at h
    · rename_i cs ha
      split at h
      · rename_i off ti hf
        unfold evOp
        simp only [hop, ha, hf, h, ofO, Option.map_some]
      · cases h
    · cases h
  · exact h

/-- a new slice -/
def mkSl (C : Cfg) (st : St) (t : TypeId) (l c : AV) : Option Res :=
  match C.ty t, l, c with
    | some ⟨.slice e, _, _, _, _⟩, .int _ n, .int _ m => match C.ty e with
      | none => none
      | some ei => bif decide (0 ≤ n) && decide (n ≤ m) && decide (m * ei.bytes ≤ 35184372088832) && !(ei.size == 0) && !(ei.bytes == 0) then
          newBlk st (zeros ei m.toNat) (fun b => .arr ei.size b 0 n.toNat) else none
    | _, _, _ => none

/-- what a reading, an append, .. is asked to come to -/
def askMem (C : Cfg) (call : CallF) (fl : Nat) (me : FuncId) (o : Oper) (st : St) (v : AV) (hp : List Blk) (fp : Fp) : Prop :=
  match o.op with
  | .call c => match mapO (opv C st.tmps) c.args.toList, c.callee with
    | some args, .builtin b => ∀ ts, builtinE C fl (C.arrF me) ⟨ts, st.hp⟩ b c.argTypes.toList args = some ⟨.v v, ts, hp, fp⟩
    | _, _ => False
  | .load t x => match opnd C st.tmps x with
    | some (.lp s off) => match slotCells st.tmps s, C.ty t with
      | some cs, some ti => part ti cs off = some v ∧ hp = st.hp ∧ fp = .lr s
      | _, _ => False
    | some a => ∀ ts, loadAt C ⟨ts, st.hp⟩ t a = some ⟨.v v, ts, hp, fp⟩
    | none => False
  | .slice t x lo hi mx => match opnd C st.tmps x, optV C st.tmps lo, optV C st.tmps hi, optV C st.tmps mx with
    | some a, some l, some h, some m => (∀ ts, sliceE C ⟨ts, st.hp⟩ t a l h m = some v) ∧ hp = st.hp ∧ fp = slFp a
    | _, _, _, _ => False
  | .convert s d x => match opv C st.tmps x with
    | some a => ∀ ts, convE C (C.arrF me) ⟨ts, st.hp⟩ s d a = some ⟨.v v, ts, hp, fp⟩
    | none => False
  | .makeSlice t l c => match opv C st.tmps l, opv C st.tmps c with
    | some a, some b => ∀ ts, mkSl C ⟨ts, st.hp⟩ t a b = some ⟨.v v, ts, hp, fp⟩
    | _, _ => False
  | _ => evOp C call fl me o st = some ⟨.v v, st.tmps, hp, fp⟩

theorem askMem_ok {o : Oper} {st : St} {v : AV} {hp : List Blk} {fp : Fp} (h : askMem C call fl me o st v hp fp) : evOp C call fl me o st = some ⟨.v v, st.tmps, hp, fp⟩ := by
  unfold askMem at h
  split at h
  · rename_i c hop
    split at h
    · rename_i args b ha hc
      unfold evOp
      simp only [hop, ha, hc]
      exact h st.tmps
    · cases h
  · rename_i t x hop
    split at h
    · rename_i s off ha
      split at h
      · rename_i cs ti h1 h2
        obtain ⟨k1, rfl, rfl⟩ := h
        unfold evOp
        simp only [hop, ha, Option.bind_some, loadAt, h1, h2, k1, Option.map_some]
      · cases h
    · rename_i a _ ha
      unfold evOp
      simp only [hop, ha, Option.bind_some]
      exact h st.tmps
    · cases h
  · rename_i t x lo hi mx hop
    split at h
    · rename_i a l hh m h1 h2 h3 h4
      obtain ⟨k1, rfl, rfl⟩ := h
      unfold evOp
      simp only [hop, h1, h2, h3, h4]
      rw [k1 st.tmps]
      rfl
    · cases h
  · rename_i s d x hop
    split at h
    · rename_i a ha
      unfold evOp
      simp only [hop, ha]
      exact h st.tmps
    · cases h
  · rename_i t l c hop
    split at h
    · rename_i a b ha hb
      have := h st.tmps
      unfold mkSl at this
      unfold evOp
      simp only [hop]
      split at this
      · rename_i e _ _ _ _ k n k' m' h1
        simp only [h1, ha, hb]
        exact this
      · cases this
    · cases h
  · exact h

/-- what a store is asked to come to -/
def askSto (C : Cfg) (fl : Nat) (o : Oper) (st : St) (hp : List Blk) (fp : Fp) : Prop :=
  match o.op with
  | .store t x y => match opnd C st.tmps x, opv C st.tmps y with
    | some a, some u => ∀ ts, storeAt C fl ⟨ts, st.hp⟩ t a u = some ⟨.sk, ts, hp, fp⟩
    | _, _ => False
  | _ => False

theorem askSto_ok {o : Oper} {st : St} {hp : List Blk} {fp : Fp} (h : askSto C fl o st hp fp) : evOp C call fl me o st = some ⟨.sk, st.tmps, hp, fp⟩ := by
  unfold askSto at h
  split at h
  · rename_i t x y hop
    split at h
    · rename_i a u ha hu
      unfold evOp
      simp only [hop, ha, hu]
      exact h st.tmps
    · cases h
  · cases h

/-- what a call is asked to come to -/
def askCall (C : Cfg) (call : CallF) (o : Oper) (st : St) (v : AV) (hp : List Blk) : Prop :=
  match o.op with
  | .call c => match mapO (opv C st.tmps) c.args.toList, c.callee with
    | some args, .value f => match opv C st.tmps f with
      | some (.fn (.func g) first captured) => call g (first ++ args ++ captured) st.hp = some (v, hp)
      | _ => False
    | _, _ => False
  | _ => False

/-- what a call touches -/
def calleeFp (C : Cfg) (o : Oper) (st : St) : Fp :=
  match o.op with
  | .call c => match c.callee with
    | .value f => match opv C st.tmps f with
      | some (.fn (.func g) _ _) => callFp C g st.hp.length
      | _ => .hw
    | _ => .hw
  | _ => .hw

theorem askCall_ok {o : Oper} {st : St} {v : AV} {hp : List Blk} (h : askCall C call o st v hp) : evOp C call fl me o st = some ⟨.v v, st.tmps, hp, calleeFp C o st⟩ := by
  unfold askCall at h
  split at h
  · rename_i c hop
    split at h
    · rename_i args f ha hc
      split at h
      · rename_i g first captured hf
        unfold evOp calleeFp
        simp only [hop, ha, hc, hf, callE, h]
      · cases h
    · cases h
  · cases h

def evOneP (C : Cfg) (call : CallF) (fl : Nat) (me : FuncId) (ops : List Oper) (π : List (Nat × Nat × Ora)) (id j : Nat) (o : Oper) (st : St) : Option (St × Fp × Option Prop) :=
  match find2 id j π with
  | none => match evOne C call fl me ops o st with
    | some (st', f) => some (st', f, none)
    | none => none
  | some (.val v) => match wantedE ops st.tmps o with
    | some true => match put st.tmps o.dst (.v v) with
      | some t => some (⟨t, st.hp⟩, .z, some (askOp C call fl me o st v))
      | none => none
    | _ => none
  | some (.res v hp) => match wantedE ops st.tmps o with
    | some true => match put st.tmps o.dst (.v v) with
      | some t => some (⟨t, hp⟩, calleeFp C o st, some (askCall C call o st v hp))
      | none => none
    | _ => none
  | some (.mem v hp fp) => match wantedE ops st.tmps o with
    | some true => match put st.tmps o.dst (.v v) with
      | some t => some (⟨t, hp⟩, fp, some (askMem C call fl me o st v hp fp))
      | none => none
    | _ => none
  | some (.sto hp fp) => match wantedE ops st.tmps o with
    | some true => match put st.tmps o.dst .sk with
      | some t => some (⟨t, hp⟩, fp, some (askSto C fl o st hp fp))
      | none => none
    | _ => none
  | some (.loop _ _) => none

def andO : Option Prop → List Prop → List Prop
  | none, l => l
  | some p, l => p :: l

def runOpsP (C : Cfg) (call : CallF) (fl : Nat) (me : FuncId) (ops : List Oper) (π : List (Nat × Nat × Ora)) (id : Nat) : Nat → List Oper → St → Option (St × List Fp × List Prop)
  | _, [], st => some (st, [], [])
  | j, o :: rest, st => match evOneP C call fl me ops π id j o st with
    | some (st1, f, φ) => match runOpsP C call fl me ops π id (j + 1) rest st1 with
      | some (st', fps, φs) => some (st', f :: fps, andO φ φs)
      | none => none
    | none => none

/-- a loop out of a head that is clean -/
def evLoopC (body : St → Option (Ex × St)) (clean : St → St) : Nat → St → Option (Ex × St)
  | 0, _ => none
  | k + 1, st => match body st with
    | some (.normal, st') => evLoopC body clean k (clean st')
    | r => r

theorem evLoopC_ok (body : St → Option (Ex × St)) (clean : St → St) : ∀ (k : Nat) (st : St), evLoop body clean k st = evLoopC body clean k (clean st)
  | 0, _ => rfl
  | k + 1, st => by
    simp only [evLoop, evLoopC]
    split
    · rename_i st' h; rw [h]; exact evLoopC_ok body clean k st'
    · rename_i h
      split
      · rename_i st' h2; exact absurd h2 (h st')
      · rfl

/-- a loop out of a clean head, to a clean end -/
def loopN (C : Cfg) (call : CallF) (fl : Nat) (me : FuncId) (k : Nat) (b : Code) (r n : Nat) (st : St) : Option (Ex × St) :=
  (evLoopC (run C call fl me k b) (cleanSt (C.loop me r)) n st).map fun p => (p.1, cleanSt (C.after me r) p.2)

def allP : List Prop → Prop
  | [] => True
  | [p] => p
  | p :: q :: ps => p ∧ allP (q :: ps)

theorem allP_cons {p : Prop} {ps : List Prop} : allP (p :: ps) ↔ p ∧ allP ps := by cases ps <;> simp [allP]
theorem allP_append : ∀ {ps qs : List Prop}, allP (ps ++ qs) ↔ allP ps ∧ allP qs
  | [], qs => by simp [allP]
  | p :: ps, qs => by rw [List.cons_append, allP_cons, allP_cons, allP_append, and_assoc]

theorem evOneP_ok {ops : List Oper} {π : List (Nat × Nat × Ora)} {id j : Nat} {o : Oper} {st st' : St} {f : Fp} {φ : Option Prop} (h : evOneP C call fl me ops π id j o st = some (st', f, φ)) (hφ : ∀ p, φ = some p → p) :
    evOne C call fl me ops o st = some (st', f) := by
  unfold evOneP at h
  split at h
  · split at h
    · rename_i h1; cases h; exact h1
    · cases h
  · split at h
    · rename_i hw
      split at h
      · rename_i t ht
        cases h
        unfold evOne
        simp only [hw, askOp_ok (hφ _ rfl), ht]
      · cases h
    · cases h
  · split at h
    · rename_i hw
      split at h
      · rename_i t ht
        cases h
        unfold evOne
        simp only [hw, askCall_ok (hφ _ rfl), ht]
      · cases h
    · cases h
  · split at h
    · rename_i hw
      split at h
      · rename_i t ht
        cases h
        unfold evOne
        simp only [hw, askMem_ok (hφ _ rfl), ht]
      · cases h
    · cases h
  · split at h
    · rename_i hw
      split at h
      · rename_i t ht
        cases h
        unfold evOne
        simp only [hw, askSto_ok (hφ _ rfl), ht]
      · cases h
    · cases h
  · cases h

theorem runOpsP_ok {ops : List Oper} {π : List (Nat × Nat × Ora)} {id : Nat} : ∀ (l : List Oper) (j : Nat) (st st' : St) (fps : List Fp) (φs : List Prop), runOpsP C call fl me ops π id j l st = some (st', fps, φs) → allP φs →
    runOps C call fl me ops l st = some (st', fps)
  | [], j, st, st', fps, φs, h, _ => by simp only [runOpsP, Option.some.injEq, Prod.mk.injEq] at h; obtain ⟨rfl, rfl, _⟩ := h; rfl
  | o :: l, j, st, st', fps, φs, h, hφ => by
    simp only [runOpsP] at h
    split at h
    · rename_i st1 f φ h1
      split at h
      · rename_i st2 fs ψ h2
        cases h
        have hh : (∀ p, φ = some p → p) ∧ allP ψ := by
          cases φ with
          | none => exact ⟨fun p h => (by cases h), hφ⟩
          | some p => have := allP_cons.1 hφ; exact ⟨fun q h => by cases h; exact this.1, this.2⟩
        simp only [runOps, evOneP_ok h1 hh.1, runOpsP_ok l (j + 1) st1 st' fs ψ h2 hh.2]
      · cases h
    · cases h

/-- slots, told sparsely -/
def slots (n : Nat) (l : List (Nat × AV)) : List TV := (List.range n).map fun i => match lookN i l with
  | some v => .v v
  | none => .junk
/-- the body of the loop whose first region has a number -/
def loopAt (r : Nat) : Code → Option Code
  | .seq a b => match loopAt r a with
    | some c => some c
    | none => loopAt r b
  | .cond _ a b => match loopAt r a with
    | some c => some c
    | none => loopAt r b
  | .block _ a => loopAt r a
  | .loop a => bif Nat.beq (firstReg a) r then some a else loopAt r a
  | _ => none

end
section
variable {P:Program} {C:Cfg}
theorem frozen_of_block {w w':World} {r o:Nat} (h:w'.heap[r]?=w.heap[r]?):w'.frozen? ⟨r,o,none⟩=w.frozen? ⟨r,o,none⟩:=by
 unfold World.frozen?;simp only [h]
theorem cell_of_block {w w':World} {r o:Nat} (h:w'.heap[r]?=w.heap[r]?):w'.cell? ⟨r,o,none⟩=w.cell? ⟨r,o,none⟩:=World.cell?_of_block h
theorem low {w:World} {r o:Nat} {v:Value} (h:w.cell? ⟨r,o,none⟩=some v):r < w.heap.size:=by
 rcases Nat.lt_or_ge r w.heap.size with h' | h'
 ·exact h'
 ·exfalso
  simp [World.cell?,Array.getElem?_eq_none h'] at h
theorem ext_grow {n:Nat} {glob:Nat→Option AV} {B:Nat} {w0:World} {L:Lay} {w w':World} {hp:List Blk} (h:Inv glob B w0 L w hp) (hb:Below w.heap.size w w'):Ext n L w L w':=by
 refine ⟨fun r o hr=>⟨hr, ?_⟩,fun b p _ hp=>⟨hp,fun _ _ h=>h,rfl⟩,fun g F _ hF=>⟨F,hF, .inl rfl⟩⟩
 refine cell_of_block (hb.block r ?_)
 rcases Nat.lt_or_ge r w.heap.size with h' | h'
 ·exact h'
 ·rw [h.fresh r o h'] at hr;cases hr
theorem inv_grow {glob:Nat→Option AV} {B:Nat} {w0:World} {L:Lay} {w w':World} {hp:List Blk} (h:Inv glob B w0 L w hp) (hb:Below w.heap.size w w'):Inv glob B w0 L w' hp:=by
 refine ⟨h.below.trans (hb.mono h.size),Nat.le_trans h.size hb.size,fun b cs hc => ?_,fun r o b hr => ?_,h.fams,fun r o g hr => ?_,fun r o hr=>h.fresh r o (Nat.le_trans hb.size hr),h.noLoc,h.noFam,fun g v hg=>(h.globs g v hg).mono (Nat.le_refl _) (ext_grow h hb),h.kept⟩
 ·obtain ⟨p,h1,h2,h3⟩:=h.blks b cs hc
  refine ⟨p,h1,h2,fun j c hj => ?_⟩
  obtain ⟨k1,k2,rv,k3,k4⟩:=h3 j c hj
  exact ⟨k1,k2,rv,(cell_of_block (hb.block _ (low k3))).trans k3,k4.mono (Nat.le_refl _) (ext_grow h hb)⟩
 ·obtain ⟨k1,⟨v,k2⟩,k3⟩:=h.own r o b hr
  exact ⟨k1,⟨v,(cell_of_block (hb.block _ (low k2))).trans k2⟩,(frozen_of_block (hb.block _ (low k2))).trans k3⟩
 ·obtain ⟨k1,⟨v,k2⟩,k3⟩:=h.spare r o g hr
  exact ⟨k1,⟨v,(cell_of_block (hb.block _ (low k2))).trans k2⟩,(frozen_of_block (hb.block _ (low k2))).trans k3⟩
theorem grow_post {B:Nat} {w0:World} {L:Lay} {w w':World} {hp:List Blk} (h:Inv C.glob B w0 L w hp) (hb:Below w.heap.size w w') {v:AV} {rv:Value} (hv:VR hp.length L w' v rv) :
  CallPost C B w0 L w hp.length v hp (.returned rv) w' :=
 ⟨rv,L,rfl,inv_grow h hb,ext_grow h hb,fun r o t hr hl=>⟨hl,cell_of_block (hb.block _ hr),frozen_of_block (hb.block _ hr)⟩,hb.size,Nat.le_refl _,hv⟩
def ixB (c:Nat):List UInt8→Nat→Int
 | [],_ => -1
 | b::l,i=>bif Nat.beq b.toNat c then (i:Int) else ixB c l (i + 1)
theorem ixB_eq {c:Nat} (hc:c < 256):∀ (l:List UInt8) (i:Nat),ixB c l i=if indexByte l c.toUInt8 = -1 then -1 else indexByte l c.toUInt8 + i
 | [],i=>by simp [ixB,indexByte]
 | b::l,i=>by
  have ih:=ixB_eq hc l (i + 1)
  have hge:=indexByte_ge l c.toUInt8
  unfold ixB indexByte
  by_cases h:b=c.toUInt8
  ·have e:b.toNat=c:=by
    rw [h]
    show (UInt8.ofNat c).toNat=c
    rw [UInt8.toNat_ofNat'];exact Nat.mod_eq_of_lt hc
   have e2:Nat.beq b.toNat c=true:=by rw [e];exact Nat.beq_refl c
   have e3:(b==c.toUInt8)=true:=by simpa using h
   rw [e2,cond_true rfl]
   simp only [e3,if_true]
   rw [if_neg (by omega)];omega
  ·have e2:Nat.beq b.toNat c=false:=by
    rw [Bool.eq_false_iff]
    intro h2
    apply h
    have:b.toNat=c:=Nat.eq_of_beq_eq_true h2
    rw [← this]
    show b=UInt8.ofNat b.toNat
    exact UInt8.ofNat_toNat.symm
   have e3:¬ (b==c.toUInt8)=true:=by simpa using h
   rw [e2,cond_false rfl,ih]
   simp only [if_neg e3]
   generalize indexByte l c.toUInt8=x at *
   by_cases hx:x = -1
   ·subst hx;rfl
   ·have hx':¬ (x == -1)=true:=by simpa using hx
    rw [if_neg hx,if_neg hx',if_neg (by omega)]
    omega
def extIx:List AV→Option AV
 | [.str s, .int .u8 c]=>bif decide (0≤c)&&decide (c < 256) then some (.int .i64 (ixB c.toNat s 0)) else none
 | _=>none
theorem extIx_ok {f : FuncId} {fn : Func} (hf : P.funcs[f]? = some fn) (hname : (fn.name == "runtime.NumGoroutine") = false) (hb : fn.body.isNone = true) (hn : Extern.findNext fn = none) (he : Extern.find fn = some Extern.BytealgIndexByte.indexByte)
  (args:List AV) (v:AV) (hp:List Blk) (hv:extIx args=some v) (B:Nat) (w0:World) (L:Lay) (w:World) (rargs:List Value) (hI:Inv C.glob B w0 L w hp) (hA:CR hp.length L w args rargs) :
  FCalls P f rargs.toArray w (CallPost C B w0 L w hp.length v hp):=by
 unfold extIx at hv
 split at hv
 ·rename_i s c
  simp only [cond_eq_ite] at hv
  split at hv
  ·rename_i hc
   cases hv
   simp only [Bool.and_eq_true,decide_eq_true_eq] at hc
   obtain ⟨hl,hA⟩:=hA
   obtain ⟨r0,r1,rfl⟩:∃ r0 r1,rargs=[r0,r1]:=by
    match rargs,hl with
    | [a,b],_=>exact ⟨a,b,rfl⟩
   have h0:=hA 0 _ r0 rfl rfl
   have h1:=hA 1 _ r1 rfl rfl
   cases h0 with | str _ bs hs => ?_
   cases h1
   unfold FCalls
   rw [run_callFunc_extern hf hname hb hn he,Lib.run_indexByteString]
   simp only [Result.andThen]
   refine grow_post hI (Below.refl _ _) ?_
   have e:=ixB_eq (c:=c.toNat) (by omega) s 0
   have hge:=indexByte_ge s c.toNat.toUInt8
   rw [hs]
   rw [show ixB c.toNat s 0=indexByte s c.toNat.toUInt8 by rw [e];split <;> omega]
   exact .int _ _
  ·cases hv
 ·cases hv
def strsOf:List AV→Option (List (List UInt8))
 | []=>some []
 | .str s::l=>(strsOf l).map (s :: ·)
 | _=>none
def joinB (sep:List UInt8):List (List UInt8)→List UInt8
 | []=>[]
 | [x]=>x
 | x::l=>x++(sep++joinB sep l)
theorem joinB_eq (sep:List UInt8):∀ l:List (List UInt8),joinB sep l=Lib.join l sep
 | []=>rfl
 | [x]=>by simp [joinB,Lib.join,List.intercalate]
 | x::y::l=>by
  have ih:=joinB_eq sep (y::l)
  rw [joinB,ih]
  simp [Lib.join,List.intercalate]
  intro h;cases h
def extJoin:List AV→Option AV
 | [.nilS, .str _]=>some (.str [])
 | [.lit 1 _ xs, .str sep]=>match strsOf xs with
  | some ss=>bif decide (xs.length≤140737488355328)&&decide ((joinB sep ss).length≤140737488355328) then some (.str (joinB sep ss)) else none
  | none=>none
 | _=>none
def JoinSays (P:Program) (f:FuncId):Prop :=
 (∀ (a:Option Addr) (c:Nat) (sep:ByteArray) (w:World),Calls P f #[.slice a 0 c, .string sep] w fun e w'=>e = .returned (.string ⟨#[]⟩)∧w'=w) ∧
 (∀ (bk o c:Nat) (xs:List ByteArray) (sep:ByteArray) (w:World),(∀ (j:Nat) x,xs[j]?=some x→w.cell? ⟨bk,o + j,none⟩=some (.string x)) →
  bk < w.heap.size→xs.length≤140737488355328→xs.length≤c→(Lib.join (xs.map (·.data.toList)) sep.data.toList).length≤140737488355328 →
  Calls P f #[.slice (some ⟨bk,o,none⟩) xs.length c, .string sep] w fun e w'=>e = .returned (.string ⟨(Lib.join (xs.map (·.data.toList)) sep.data.toList).toArray⟩)∧Below w.heap.size w w')
theorem fcalls_calls {f : FuncId} {fn : Func} (hf : P.funcs[f]? = some fn) (hb : fn.body.isSome = true) (hname : (fn.name == "runtime.NumGoroutine") = false) {args : Array Value} {w : World} {R : Ending → World → Prop}
  (h:Calls P f args w R):FCalls P f args w R:=by
 obtain ⟨c,hb⟩:=Option.isSome_iff_exists.1 hb
 unfold FCalls
 have:(callFunc f args).run P w = .ok (.enter f args) w:=by
  have hn' : ¬ fn.name = "runtime.NumGoroutine" := by simpa using hname
  unfold callFunc
  simp [hf,hb,hn']
 rw [this]
 exact h
theorem strsOf_ok {n:Nat} {L:Lay} {w:World} {rb ro:Nat} {cv:Nat→Value}:∀ (xs:List AV) (ss:List (List UInt8)) (i:Nat),strsOf xs=some ss →
  (∀ j,j < xs.length→w.cell? ⟨rb,ro + (i + j),none⟩=some (cv (i + j)))→(∀ (j:Nat) c,xs[j]?=some c→VR n L w c (cv (i + j))) →
  ∃ bs:List ByteArray,bs.map (·.data.toList)=ss∧bs.length=xs.length∧∀ (j:Nat) x,bs[j]?=some x→w.cell? ⟨rb,ro + (i + j),none⟩=some (.string x)
 | [],ss,i,h,_,_=>by
  cases h
  exact ⟨[],rfl,rfl,fun j x hj=>by simp at hj⟩
 | .str s::l,ss,i,h,hc,hv=>by
  simp only [strsOf,Option.map_eq_some_iff] at h
  obtain ⟨t,ht,rfl⟩:=h
  obtain ⟨bs,h1,h2,h3⟩:=strsOf_ok l t (i + 1) ht (fun j hj=>by
   have:=hc (j + 1) (by simpa using hj)
   rw [show i + 1 + j=i + (j + 1) by omega];exact this) (fun j c hj=>by
   have:=hv (j + 1) c (by simpa using hj)
   rw [show i + 1 + j=i + (j + 1) by omega];exact this)
  have hc0:=hc 0 (by simp)
  have h0:=hv 0 (.str s) rfl
  simp only [Nat.add_zero] at hc0 h0
  cases hcv:cv i with
  | string b =>
   rw [hcv] at h0 hc0
   cases h0 with | str _ _ hb => ?_
   refine ⟨b::bs,by simp [h1,hb],by simp [h2],fun j x hj => ?_⟩
   cases j with
   | zero=>simp at hj;subst hj;exact hc0
   | succ j =>
    have:=h3 j x (by simpa using hj)
    rw [show i + (j + 1)=i + 1 + j by omega];exact this
  | _=>rw [hcv] at h0;cases h0
theorem flat_strs:∀ {xs:List AV} {ss:List (List UInt8)},strsOf xs=some ss→flat xs=xs
 | [],_,_=>rfl
 | .str s::l,ss,h=>by
  simp only [strsOf,Option.map_eq_some_iff] at h
  obtain ⟨t,ht,rfl⟩:=h
  simp [flat,AV.cells,flat_strs ht]
theorem extJoin_ok {f : FuncId} {fn : Func} (hf : P.funcs[f]? = some fn) (hb : fn.body.isSome = true) (hname : (fn.name == "runtime.NumGoroutine") = false) (hJ : JoinSays P f)
  (args:List AV) (v:AV) (hp:List Blk) (hv:extJoin args=some v) (B:Nat) (w0:World) (L:Lay) (w:World) (rargs:List Value) (hI:Inv C.glob B w0 L w hp) (hA:CR hp.length L w args rargs) :
  FCalls P f rargs.toArray w (CallPost C B w0 L w hp.length v hp):=by
 refine fcalls_calls hf hb hname ?_
 unfold extJoin at hv
 split at hv
 ·rename_i sep
  cases hv
  obtain ⟨hl,hA⟩:=hA
  obtain ⟨r0,r1,rfl⟩:∃ r0 r1,rargs=[r0,r1]:=by
   match rargs,hl with
   | [a,b],_=>exact ⟨a,b,rfl⟩
  have h0:=hA 0 _ r0 rfl rfl
  have h1:=hA 1 _ r1 rfl rfl
  cases h0
  cases h1 with | str _ bs hs => ?_
  refine Calls.mono (hJ.1 none 0 bs w) fun e w' ⟨he,hw⟩ => ?_
  subst he hw
  exact grow_post hI (Below.refl _ _) (.str _ _ rfl)
 ·rename_i own xs sep
  split at hv
  ·rename_i ss hss
   simp only [cond_eq_ite] at hv
   split at hv
   ·rename_i hc
    cases hv
    simp only [Bool.and_eq_true,decide_eq_true_eq] at hc
    obtain ⟨hl,hA⟩:=hA
    obtain ⟨r0,r1,rfl⟩:∃ r0 r1,rargs=[r0,r1]:=by
     match rargs,hl with
     | [a,b],_=>exact ⟨a,b,rfl⟩
    have h0:=hA 0 _ r0 rfl rfl
    have h1:=hA 1 _ r1 rfl rfl
    cases h1 with | str _ bs hs => ?_
    cases h0 with | lit _ _ _ rb ro cap cv g1 g2 g3 g4 g5 g6 => ?_
    rw [flat_strs hss] at g5
    simp only [Nat.mul_one] at g3
    by_cases hne:xs=[]
    ·subst hne
     cases hss
     refine Calls.mono (hJ.1 _ cap bs w) fun e w' ⟨he,hw⟩ => ?_
     subst he hw
     exact grow_post hI (Below.refl _ _) (.str _ _ rfl)
    ·have hrb:rb < w.heap.size:=low (g3 0 (by cases xs with | nil=>exact absurd rfl hne | cons _ _=>simp)).1
     obtain ⟨ys,k1,k2,k3⟩:=strsOf_ok (rb:=rb) (ro:=ro) (cv:=cv) (n:=hp.length) (L:=L) (w:=w) xs ss 0 hss (fun j hj=>by rw [Nat.zero_add];exact (g3 j hj).1) (fun j c hj=>by rw [Nat.zero_add];exact g5 j c hj)
     have e:Lib.join (ys.map (·.data.toList)) bs.data.toList=joinB sep ss:=by rw [k1,hs,joinB_eq]
     have:=hJ.2 rb ro cap ys bs w (fun j x hj=>by have:=k3 j x hj;rwa [Nat.zero_add] at this) hrb (by omega) (by omega) (by rw [e];exact hc.2)
     rw [e,k2] at this
     refine Calls.mono this fun e' w' ⟨he,hw⟩ => ?_
     subst he
     exact grow_post hI hw (.str _ _ rfl)
   ·cases hv
  ·cases hv
 ·cases hv
end
end Go.Proofs.YtanopbolgfcojaaGreatDoor.E
namespace Go.Proofs.YtanopbolgfcojaaGreatDoor.E
open Go Go.RowKit
section
variable {H : Type} {enc : TypeId × Value → H} {P : Program} {C : Cfg}

/-! ### arguments of plain data: what they look like, and that they stand for what the machine has -/

def sizeT (C : Cfg) (t : TypeId) : Nat := match C.ty t with | some ti => ti.size | none => 0

/-- what a value of plain data at a type looks like -/
def Sh (C : Cfg) : Nat → TypeId → AV → Prop
  | 0, _, _ => False
  | d + 1, t, x => match C.ty t with
    | some ⟨.bool, _, _, _, _⟩ => ∃ b, x = .bool b
    | some ⟨.int k, _, _, _, _⟩ => ∃ n, x = .int k n ∧ (Lit.int k n).wf = true
    | some ⟨.string, _, _, _, _⟩ => ∃ s, x = .str s ∧ s.length ≤ maxLen
    | some ⟨.slice e, _, _, _, _⟩ => x = .nilS ∨ ∃ xs, x = .lit (sizeT C e) .sealed xs ∧ xs.length ≤ maxLen ∧ ∀ y ∈ xs, Sh C d e y
    | some ⟨.struct fs, n, _, _, _⟩ => ∃ cs, x = .agg cs ∧ cs.length = n ∧ ∀ p ∈ fs, ∃ fi y, C.ty p.2 = some fi ∧ part fi cs p.1 = some y ∧ Sh C d p.2 y
    | some ⟨.array m e, n, _, _, _⟩ => ∃ cs, x = .agg cs ∧ cs.length = n ∧ ∀ i, i < m → ∃ ei y, C.ty e = some ei ∧ part ei cs (i * ei.size) = some y ∧ Sh C d e y
    | _ => False

/-- fields that lie one behind the other -/
def contig (C : Cfg) : Nat → List (Nat × TypeId) → Nat → Bool
  | o, [], n => o == n
  | o, (off, ft) :: fs, n => (off == o) && !(sizeT C ft == 0) && contig C (o + sizeT C ft) fs n

/-- is it a type of plain data? (slices: where they may stand) -/
def plainT (C : Cfg) : Bool → Nat → TypeId → Bool
  | _, 0, _ => false
  | sl, d + 1, t => match C.ty t with
    | some ⟨.bool, n, _, _, _⟩ => n == 1
    | some ⟨.int _, n, _, _, _⟩ => n == 1
    | some ⟨.string, n, _, _, _⟩ => n == 1
    | some ⟨.slice e, n, _, _, _⟩ => n == 1 && sl && !(sizeT C e == 0) && plainT C false d e
    | some ⟨.struct fs, n, _, _, _⟩ => contig C 0 fs n && fs.all fun p => plainT C sl d p.2
    | some ⟨.array m e, n, _, _, _⟩ => m * sizeT C e == n && !(sizeT C e == 0) && plainT C sl d e
    | _ => false

/-- cells that stand for cells -/
def Cel (w : World) (as : List AV) (vs : List Value) : Prop :=
  as.length = vs.length ∧ ∀ (j : Nat) c v, as[j]? = some c → vs[j]? = some v → c.one = true ∧ VR 0 (lay0 w) w c v

theorem Cel.nil {w : World} : Cel w [] [] := ⟨rfl, fun j c v h => by simp at h⟩
theorem Cel.one {w : World} {c : AV} {v : Value} (h1 : c.one = true) (h : VR 0 (lay0 w) w c v) : Cel w [c] [v] :=
  ⟨rfl, fun j c' v' hc hv => by
    cases j with
    | zero => simp at hc hv; subst hc hv; exact ⟨h1, h⟩
    | succ j => simp at hc⟩
theorem Cel.append {w : World} {a b : List AV} {c d : List Value} (h : Cel w a c) (k : Cel w b d) : Cel w (a ++ b) (c ++ d) :=
  ⟨by simp [h.1, k.1], fun j x v hx hv => by
    by_cases hj : j < a.length
    · rw [List.getElem?_append_left hj] at hx
      rw [List.getElem?_append_left (by rw [← h.1]; exact hj)] at hv
      exact h.2 j x v hx hv
    · rw [List.getElem?_append_right (by omega)] at hx
      rw [List.getElem?_append_right (by rw [← h.1]; omega), ← h.1] at hv
      exact k.2 _ x v hx hv⟩

/-- the slices that stand in cells begin at a cell -/
def Spots (vs : List Value) : Prop := ∀ v ∈ vs, ∀ a len cap, v = .slice (some a) len cap → a.spot = none

theorem tkOf_bool {d : TypeDesc} (h : TK.bool = tkOf d) : d = .bool := by cases d <;> simp [tkOf] at h ⊢
theorem tkOf_int {k : IntKind} {d : TypeDesc} (h : TK.int k = tkOf d) : d = .int k := by cases d <;> simp [tkOf] at h ⊢; exact h.symm
theorem tkOf_string {d : TypeDesc} (h : TK.string = tkOf d) : d = .string := by cases d <;> simp [tkOf] at h ⊢
theorem tkOf_slice {e : TypeId} {d : TypeDesc} (h : TK.slice e = tkOf d) : d = .slice e := by cases d <;> simp [tkOf] at h ⊢; exact h.symm
theorem tkOf_array {n : Nat} {e : TypeId} {d : TypeDesc} (h : TK.array n e = tkOf d) : d = .array n e := by cases d <;> simp [tkOf] at h ⊢; exact ⟨h.1.symm, h.2.symm⟩
theorem tkOf_struct {fs : List (Nat × TypeId)} {d : TypeDesc} (h : TK.struct fs = tkOf d) : ∃ gs, d = .struct gs ∧ fs = gs.toList.map fun f => (f.offset, f.type) := by
  cases d <;> simp [tkOf] at h
  exact ⟨_, rfl, h⟩

theorem size_cells (hT : TysOK P C) {t : TypeId} {ti : TI} (h : C.ty t = some ti) : P.cellsOf t = ti.size := by
  obtain ⟨i, d, z, h1, h2, h3, _⟩ := (hT t ti h).ex
  simp [Program.cellsOf, h1, h3]

/-- what an opened value's cells come to -/
def Fits (C : Cfg) (t : TypeId) (x : AV) : Prop := x.cells.length = sizeT C t ∧ ∀ ti, C.ty t = some ti → (ti.k.agg = true → ∃ c, x = .agg c) ∧ (ti.k.agg = false → x.one = true)

theorem Fits.part {t : TypeId} {x : AV} {ti : TI} (h : Fits C t x) (ht : C.ty t = some ti) (pre post : List AV) : E.part ti (pre ++ (x.cells ++ post)) pre.length = some x := by
  obtain ⟨h1, h2⟩ := h
  obtain ⟨h3, h4⟩ := h2 ti ht
  have hs : sizeT C t = ti.size := by simp [sizeT, ht]
  unfold E.part
  cases ha : ti.k.agg with
  | true =>
    obtain ⟨c, rfl⟩ := h3 ha
    simp only [AV.cells] at h1 ⊢
    rw [hs] at h1
    simp [h1.symm, cond_true rfl]
  | false =>
    have h5 := h4 ha
    rw [AV.cells_one h5, cond_false rfl, getAt_eq]
    simp

theorem contig_fields (hT : TysOK P C) {w : World} {d : Nat} {sl : Bool} : ∀ (fs : List (Nat × TypeId)) (o n : Nat) (cs : List Value), contig C o fs n = true → cs.length = n →
    (∀ p ∈ fs, ∃ x, Sh C d p.2 x ∧ Fits C p.2 x ∧ Cel w x.cells ((cs.drop p.1).take (sizeT C p.2))) →
    ∃ xs : List AV, Cel w xs (cs.drop o) ∧ ∀ (pre : List AV), pre.length = o → ∀ p ∈ fs, ∃ fi y, C.ty p.2 = some fi ∧ part fi (pre ++ xs) p.1 = some y ∧ Sh C d p.2 y
  | [], o, n, cs, hc, hl, _ => by
    simp only [contig, beq_iff_eq] at hc
    refine ⟨[], ?_, fun pre hp p h => by simp at h⟩
    rw [List.drop_eq_nil_of_le (by omega)]
    exact .nil
  | (off, ft) :: fs, o, n, cs, hc, hl, hf => by
    simp only [contig, Bool.and_eq_true, beq_iff_eq, Bool.not_eq_true', beq_eq_false_iff_ne, ne_eq] at hc
    obtain ⟨⟨rfl, h0⟩, hc⟩ := hc
    obtain ⟨x, h1, h2, h3⟩ := hf (off, ft) (by simp)
    obtain ⟨xs, k1, k2⟩ := contig_fields hT (sl := sl) fs (off + sizeT C ft) n cs hc hl fun p hp => hf p (by simp [hp])
    obtain ⟨fi, hfi⟩ : ∃ fi, C.ty ft = some fi := by
      cases hq : C.ty ft with
      | none => exact absurd (by simp [sizeT, hq]) h0
      | some fi => exact ⟨fi, rfl⟩
    refine ⟨x.cells ++ xs, ?_, fun pre hp p hpm => ?_⟩
    · have := h3.append k1
      rw [← List.drop_drop] at this
      rwa [List.take_append_drop] at this
    · rcases List.mem_cons.1 hpm with rfl | hpm
      · refine ⟨fi, x, hfi, ?_, h1⟩
        rw [← hp]
        exact h2.part hfi pre xs
      · have := k2 (pre ++ x.cells) (by rw [List.length_append, hp, h2.1]) p hpm
        rwa [List.append_assoc] at this

theorem contig_range {C : Cfg} {e : TypeId} (h0 : sizeT C e ≠ 0) : ∀ (m k : Nat), contig C (k * sizeT C e) ((List.range' k m).map fun i => (i * sizeT C e, e)) ((k + m) * sizeT C e) = true
  | 0, k => by simp [contig]
  | m + 1, k => by
    have ih := contig_range h0 m (k + 1)
    have e1 : k * sizeT C e + sizeT C e = (k + 1) * sizeT C e := by rw [Nat.add_mul, Nat.one_mul]
    have e2 : (k + (m + 1)) = (k + 1 + m) := by omega
    simp only [List.range'_succ, List.map_cons, contig, beq_self_eq_true, Bool.true_and, e1, e2, ih, Bool.and_true]
    simpa using h0

theorem spots_sub {vs : List Value} (h : Spots vs) (a b : Nat) : Spots ((vs.drop a).take b) := fun v hv => h v (List.mem_of_mem_drop (List.mem_of_mem_take hv))

theorem cells_get {w : World} {base : Nat} {a : Addr} {n : Nat} {cs : List Value} (h : w.cells? base a n = some cs) : cs.length = n ∧ ∀ j v, cs[j]? = some v → w.cell? (a.add j) = some v := by
  unfold World.cells? at h
  split at h
  · have key : ∀ (l : List Nat) (cs : List Value), (l.mapM fun i => w.cell? (a.add i)) = some cs → cs.length = l.length ∧ ∀ (j : Nat) v, cs[j]? = some v → ∃ i, l[j]? = some i ∧ w.cell? (a.add i) = some v := by
      intro l
      induction l with
      | nil => intro cs h; simp at h; subst h; simp
      | cons i l ih =>
        intro cs h
        simp only [List.mapM_cons, Option.bind_eq_bind, Option.pure_def, Option.bind_eq_some_iff, Option.some.injEq] at h
        obtain ⟨v, hv, vs, hvs, rfl⟩ := h
        obtain ⟨g1, g2⟩ := ih vs hvs
        refine ⟨by simp [g1], fun j u hu => ?_⟩
        cases j with
        | zero => simp at hu; subst hu; exact ⟨i, rfl, hv⟩
        | succ j => simpa using g2 j u (by simpa using hu)
    obtain ⟨g1, g2⟩ := key _ _ h
    refine ⟨by simpa using g1, fun j v hv => ?_⟩
    obtain ⟨i, hi, hc⟩ := g2 j v hv
    have hlt := (List.getElem?_eq_some_iff.1 hi).1
    simp at hlt
    rw [List.getElem?_range hlt] at hi
    cases hi
    exact hc
  · cases h

/-- cells that are read as plain data at a type -/
theorem open_ok (hT : TysOK P C) {w : World} {sp : Nat → Bool} {held : Bool} : ∀ (d : Nat) (sl : Bool) (fuel : Nat) (t : TypeId) (cs : List Value) (x : DataW H × List MemPlace), plainT C sl d t = true →
    DataW.trod enc P w 0 sp held fuel t cs = some x → (sl = true → Spots cs) → ∃ y, Sh C d t y ∧ Fits C t y ∧ Cel w y.cells cs
  | 0, sl, fuel, t, cs, x, hp, _, _ => by cases hp
  | d + 1, sl, fuel, t, cs, x, hp, h, hs => by
    cases hti : C.ty t with
    | none => simp [plainT, hti] at hp
    | some ti =>
      obtain ⟨i, dd, z, g1, g2, g3, g4, g5, -⟩ := (hT t ti hti).ex
      obtain ⟨k, n, by_, zz, q⟩ := ti
      have hsz : sizeT C t = n := by simp [sizeT, hti]
      have hcl : P.cellsOf t = n := size_cells hT hti
      dsimp only at g5
      cases k with
      | bool =>
        simp only [plainT, hti, beq_iff_eq] at hp
        subst hp
        rw [tkOf_bool g5] at g2
        obtain ⟨b, rfl, -⟩ := DataW.trod_bool g2 h
        exact ⟨.bool b, by simp only [Sh, hti]; exact ⟨b, rfl⟩, ⟨by rw [hsz]; rfl, fun ti hq => by rw [hti] at hq; cases hq; exact ⟨(fun h => by cases h), fun _ => rfl⟩⟩, .one rfl (.bool b)⟩
      | int k =>
        simp only [plainT, hti, beq_iff_eq] at hp
        subst hp
        rw [tkOf_int g5] at g2
        obtain ⟨m, rfl, -, hwf⟩ := DataW.trod_int g2 h
        exact ⟨.int k m, by simp only [Sh, hti]; exact ⟨m, rfl, hwf⟩, ⟨by rw [hsz]; rfl, fun ti hq => by rw [hti] at hq; cases hq; exact ⟨(fun h => by cases h), fun _ => rfl⟩⟩, .one rfl (.int k m)⟩
      | string =>
        simp only [plainT, hti, beq_iff_eq] at hp
        subst hp
        rw [tkOf_string g5] at g2
        obtain ⟨s, rfl, -, hwf⟩ := DataW.trod_string g2 h
        refine ⟨.str s.data.toList, by simp only [Sh, hti]; exact ⟨_, rfl, by simpa using hwf⟩, ⟨by rw [hsz]; rfl, fun ti hq => by rw [hti] at hq; cases hq; exact ⟨(fun h => by cases h), fun _ => rfl⟩⟩, .one rfl (.str _ s rfl)⟩
      | slice e =>
        simp only [plainT, hti, Bool.and_eq_true, beq_iff_eq, Bool.not_eq_true', beq_eq_false_iff_ne, ne_eq] at hp
        obtain ⟨⟨⟨rfl, hsl⟩, he0⟩, hpe⟩ := hp
        rw [tkOf_slice g5] at g2
        obtain ⟨ei, hei⟩ : ∃ ei, C.ty e = some ei := by
          cases hq : C.ty e with
          | none => exact absurd (by simp [sizeT, hq]) he0
          | some ei => exact ⟨ei, rfl⟩
        have hes : P.cellsOf e = sizeT C e := by rw [size_cells hT hei]; simp [sizeT, hei]
        rcases DataW.trod_slice g2 h with ⟨rfl, -⟩ | ⟨a, len, cap, elems, rest, m, -, rfl, -, hb, hlc, hcm, hel, hE, -, -⟩
        · exact ⟨.nilS, by simp only [Sh, hti]; exact .inl trivial, ⟨by rw [hsz]; rfl, fun ti hq => by rw [hti] at hq; cases hq; exact ⟨(fun h => by cases h), fun _ => rfl⟩⟩, .one rfl .nilS⟩
        · have hspot : a.spot = none := hs hsl _ (by simp) a len cap rfl
          obtain ⟨rb, ro, spot⟩ := a
          dsimp only at hspot
          subst hspot
          have hadd : ∀ o k, (⟨rb, o, none⟩ : Addr).add k = ⟨rb, o + k, none⟩ := fun o k => by
            unfold Addr.add; split
            · rename_i hk; subst hk; rfl
            · rfl
          have each : ∀ i, i < len → ∃ y, Sh C d e y ∧ Fits C e y ∧ ∀ (j : Nat) c, y.cells[j]? = some c → c.one = true ∧ ∃ v, w.cell? ⟨rb, ro + (i * sizeT C e + j), none⟩ = some v ∧ VR 0 (lay0 w) w c v := fun i hi => by
            have h1 := hE i hi
            have h2 : ∃ u, elems[i]? = some u := ⟨_, List.getElem?_eq_getElem (by omega)⟩
            obtain ⟨u, hu⟩ := h2
            rw [hu, Option.bind_eq_some_iff] at h1
            obtain ⟨cs, hc1, hc2⟩ := h1
            obtain ⟨y, y1, y2, y3⟩ := open_ok hT d false m e cs u hpe hc2 (fun h => by cases h)
            obtain ⟨q1, q2⟩ := cells_get hc1
            refine ⟨y, y1, y2, fun j c hj => ?_⟩
            have hlt := (List.getElem?_eq_some_iff.1 hj).1
            obtain ⟨v, hv⟩ : ∃ v, cs[j]? = some v := ⟨_, List.getElem?_eq_getElem (by rw [← y3.1]; exact hlt)⟩
            obtain ⟨r1, r2⟩ := y3.2 j c v hj hv
            have := q2 j v hv
            rw [hadd, hes] at this
            rw [hadd] at this
            exact ⟨r1, v, by rw [← Nat.add_assoc]; exact this, r2⟩
          obtain ⟨ys, l1, l2⟩ : ∃ ys : List AV, ys.length = len ∧ ∀ (i : Nat) y, ys[i]? = some y → Sh C d e y ∧ Fits C e y ∧ ∀ (j : Nat) c, y.cells[j]? = some c → c.one = true ∧ ∃ v, w.cell? ⟨rb, ro + (i * sizeT C e + j), none⟩ = some v ∧ VR 0 (lay0 w) w c v := by
            have := fun i : Fin len => each i.1 i.2
            refine ⟨List.ofFn fun i : Fin len => (this i).choose, by simp, fun i y hy => ?_⟩
            have hlt := (List.getElem?_eq_some_iff.1 hy).1
            simp at hlt
            rw [List.getElem?_ofFn, dif_pos hlt] at hy
            cases hy
            exact (this ⟨i, hlt⟩).choose_spec
          have hsizes : ∀ y ∈ ys, y.cells.length = sizeT C e := fun y hy => by
            obtain ⟨i, hi⟩ := List.getElem?_of_mem hy
            exact (l2 i y hi).2.1.1
          have fl : ∀ (j : Nat) c, (flat ys)[j]? = some c → c.one = true ∧ ∃ v, w.cell? ⟨rb, ro + j, none⟩ = some v ∧ VR 0 (lay0 w) w c v := fun j c hj => by
            have hlt := (List.getElem?_eq_some_iff.1 hj).1
            rw [flat_length ys hsizes] at hlt
            have hdiv : j / sizeT C e < ys.length := Nat.div_lt_of_lt_mul (by rw [Nat.mul_comm]; exact hlt)
            obtain ⟨y, hy⟩ : ∃ y, ys[j / sizeT C e]? = some y := ⟨_, List.getElem?_eq_getElem hdiv⟩
            have hmod := Nat.mod_lt j (Nat.pos_of_ne_zero he0)
            have hg := flat_get ys hsizes _ y hy (j % sizeT C e) hmod
            have e1 : j / sizeT C e * sizeT C e + j % sizeT C e = j := Nat.div_add_mod' _ _
            rw [e1, hj] at hg
            have := (l2 _ y hy).2.2 _ c hg.symm
            rwa [e1] at this
          refine ⟨.lit (sizeT C e) .sealed ys, by simp only [Sh, hti]; exact .inr ⟨ys, rfl, by omega, fun y hy => by
            obtain ⟨i, hi⟩ := List.getElem?_of_mem hy
            exact (l2 i y hi).1⟩, ⟨by rw [hsz]; rfl, fun ti hq => by rw [hti] at hq; cases hq; exact ⟨(fun h => by cases h), fun _ => rfl⟩⟩, .one rfl ?_⟩
          have := VR.lit (n := 0) (L := lay0 w) (w := w) (sizeT C e) .sealed ys rb ro cap (fun j => (w.cell? ⟨rb, ro + j, none⟩).getD default) (by omega) hsizes (fun j hj => by
              obtain ⟨c, hc⟩ : ∃ c, (flat ys)[j]? = some c := ⟨_, List.getElem?_eq_getElem (by rw [flat_length ys hsizes]; exact hj)⟩
              obtain ⟨_, v, hv, _⟩ := fl j c hc
              exact ⟨by rw [hv]; rfl, imm0 hv⟩) (fun j c hc => (fl j c hc).1) (fun j c hc => by
              obtain ⟨_, v, hv, hr⟩ := fl j c hc
              rw [hv]; exact hr) trivial
          rw [l1] at this
          exact this
      | struct fs =>
        simp only [plainT, hti, Bool.and_eq_true, List.all_eq_true] at hp
        obtain ⟨hc, hf⟩ := hp
        obtain ⟨gs, hgs, hfs⟩ := tkOf_struct g5
        rw [hgs] at g2
        obtain ⟨xs, m, -, -, hlen, hxl, hx⟩ := DataW.trod_struct g2 h
        rw [hcl] at hlen
        obtain ⟨ys, k1, k2⟩ := contig_fields hT (w := w) (d := d) (sl := sl) fs 0 n cs hc hlen fun p hp => by
          rw [hfs] at hp
          obtain ⟨f, hfm, rfl⟩ := List.mem_map.1 hp
          obtain ⟨i, hi⟩ := List.getElem?_of_mem hfm
          have hi' : gs[i]? = some f := by simpa using hi
          have h1 := hx i f hi'
          obtain ⟨u, hu⟩ : ∃ u, xs[i]? = some u := ⟨_, List.getElem?_eq_getElem (by rw [hxl]; exact (Array.getElem?_eq_some_iff.1 hi').1)⟩
          rw [hu] at h1
          have hpt := hf (f.offset, f.type) (by rw [hfs]; exact List.mem_map.2 ⟨f, hfm, rfl⟩)
          have hce : P.cellsOf f.type = sizeT C f.type := by
            cases hq : C.ty f.type with
            | none =>
              exfalso
              cases d with
              | zero => cases hpt
              | succ d => simp [plainT, hq] at hpt
            | some fi => rw [size_cells hT hq]; simp [sizeT, hq]
          rw [hce] at h1
          exact open_ok hT d sl m f.type _ u hpt h1 (fun h => spots_sub (hs h) _ _)
        rw [List.drop_zero] at k1
        refine ⟨.agg ys, by simp only [Sh, hti]; exact ⟨ys, rfl, by rw [k1.1, hlen], fun p hp => k2 [] rfl p hp⟩, ⟨by rw [hsz]; show ys.length = n; rw [k1.1, hlen], fun ti hq => by rw [hti] at hq; cases hq; exact ⟨fun _ => ⟨ys, rfl⟩, (fun h => by cases h)⟩⟩, k1⟩
      | array m e =>
        simp only [plainT, hti, Bool.and_eq_true, beq_iff_eq, Bool.not_eq_true', beq_eq_false_iff_ne, ne_eq] at hp
        obtain ⟨⟨hn, he0⟩, hpe⟩ := hp
        rw [tkOf_array g5] at g2
        obtain ⟨ei, hei⟩ : ∃ ei, C.ty e = some ei := by
          cases hq : C.ty e with
          | none => exact absurd (by simp [sizeT, hq]) he0
          | some ei => exact ⟨ei, rfl⟩
        have hse : sizeT C e = ei.size := by simp [sizeT, hei]
        have hes : P.cellsOf e = sizeT C e := by rw [size_cells hT hei, hse]
        obtain ⟨xs, m', -, -, hlen, hxl, hx⟩ := DataW.trod_array g2 h
        rw [hcl] at hlen
        obtain ⟨ys, k1, k2⟩ := contig_fields hT (w := w) (d := d) (sl := sl) ((List.range' 0 m).map fun i => (i * sizeT C e, e)) 0 n cs (by have := contig_range (C := C) he0 m 0; rw [Nat.zero_mul, Nat.zero_add, hn] at this; exact this) hlen fun p hp => by
          obtain ⟨i, hi, rfl⟩ := List.mem_map.1 hp
          have hi : i < m := by simpa using (List.mem_range'_1.1 hi).2
          have h1 := hx i hi
          obtain ⟨u, hu⟩ : ∃ u, xs[i]? = some u := ⟨_, List.getElem?_eq_getElem (by rw [hxl]; exact hi)⟩
          rw [hu, hes] at h1
          exact open_ok hT d sl m' e _ u hpe h1 (fun h => spots_sub (hs h) _ _)
        rw [List.drop_zero] at k1
        refine ⟨.agg ys, by
          simp only [Sh, hti]
          refine ⟨ys, rfl, by rw [k1.1, hlen], fun i hi => ?_⟩
          obtain ⟨fi, y, q1, q2, q3⟩ := k2 [] rfl (i * sizeT C e, e) (List.mem_map.2 ⟨i, List.mem_range'_1.2 ⟨by omega, by omega⟩, rfl⟩)
          rw [hei] at q1
          cases q1
          exact ⟨ei, y, hei, by rw [← hse]; exact q2, q3⟩, ⟨by rw [hsz]; show ys.length = n; rw [k1.1, hlen], fun ti hq => by rw [hti] at hq; cases hq; exact ⟨fun _ => ⟨ys, rfl⟩, (fun h => by cases h)⟩⟩, k1⟩
      | _ => simp [plainT, hti] at hp

theorem spot_of {w : World} {r : Reach} {b : Nat} {u : TypeId} {a : Addr} {len cap : Nat} (hu : Cell.okWide P w r b u (.slice (some a) len cap)) : a.spot = none := by
  unfold Cell.okWide Cell.ok at hu
  cases hq : P.underlying u with
  | none => rw [hq] at hu; exact hu.elim
  | some dd =>
    rw [hq] at hu
    cases dd <;> first
      | exact hu.elim
      | exact hu.2.2.2.1

theorem spots_of_cells {w : World} {r : Reach} {b : Nat} {vs : List Value} (h : ∀ v ∈ vs, ∃ u, Cell.okWide P w r b u v) : Spots vs := fun v hv a len cap e => by
  obtain ⟨u, hu⟩ := h v hv
  subst e
  exact spot_of hu

theorem no_agg {w : World} {r : Reach} {b : Nat} {u : TypeId} {cs : Array Value} (hu : Cell.okWide P w r b u (.agg cs)) : False := by
  unfold Cell.okWide Cell.ok at hu
  cases hq : P.underlying u with
  | none => rw [hq] at hu; exact hu.elim
  | some dd =>
    rw [hq] at hu
    cases dd <;> exact hu.elim

/-- an argument's cells -/
theorem arg_cells {w : World} {r : Reach} {b : Nat} {t : TypeId} {v : Value} {dd : TypeDesc} (hd : P.underlying t = some dd) (hval : Value.okWide P w r b t v) :
    Spots v.cells.toList ∧ (((tkOf dd).agg = true ∧ ∃ cs, v = .agg cs) ∨ ((tkOf dd).agg = false ∧ v.cells.toList = [v])) := by
  have row : ∀ cs : Array Value, Row.okWide P w r b t cs → Spots cs.toList := fun cs hc => by
    obtain ⟨ts, _, _, hc⟩ := hc
    refine spots_of_cells (P := P) (w := w) (r := r) (b := b) fun v hv => ?_
    obtain ⟨i, hi⟩ := List.getElem?_of_mem hv
    obtain ⟨u, _, hu⟩ := hc i v (by simpa using hi)
    exact ⟨u, hu⟩
  have cell : Cell.okWide P w r b t v → Spots v.cells.toList ∧ v.cells.toList = [v] := fun hu => by
    have : v.cells.toList = [v] := by
      cases v <;> first | rfl | exact (no_agg hu).elim
    rw [this]
    exact ⟨spots_of_cells (P := P) (w := w) (r := r) (b := b) fun u hq => by simp at hq; subst hq; exact ⟨t, hu⟩, rfl⟩
  unfold Value.okWide at hval
  rw [hd] at hval
  cases dd <;> first
    | (obtain ⟨cs, rfl, _, hc⟩ := hval; exact ⟨row cs hc, .inl ⟨rfl, cs, rfl⟩⟩)
    | (obtain ⟨h1, h2⟩ := cell hval; exact ⟨h1, .inr ⟨rfl, h2⟩⟩)

/-- an argument of plain data -/
theorem open_arg (hT : TysOK P C) {w : World} {sp : Nat → Bool} {held : Bool} {r : Reach} {b : Nat} {t : TypeId} {v : Value} {dd : DataW H} {ps : List MemPlace} (d : Nat) (hp : plainT C true d t = true)
    (hval : Value.okWide P w r b t v) (h : DataW.Trod enc P w 0 sp held t v dd ps) : ∃ y, Sh C d t y ∧ VR 0 (lay0 w) w y v := by
  obtain ⟨fuel, h⟩ := h
  obtain ⟨ti, hti⟩ : ∃ ti, C.ty t = some ti := by
    cases hq : C.ty t with
    | none => cases d with
      | zero => cases hp
      | succ d => simp [plainT, hq] at hp
    | some ti => exact ⟨ti, rfl⟩
  obtain ⟨i, dx, z, g1, g2, g3, g4, g5, -⟩ := (hT t ti hti).ex
  obtain ⟨hsp, hag⟩ := arg_cells g2 hval
  obtain ⟨y, y1, y2, y3⟩ := open_ok hT d true fuel t _ _ hp h (fun _ => hsp)
  refine ⟨y, y1, ?_⟩
  obtain ⟨q1, q2⟩ := y2.2 ti hti
  rcases hag with ⟨ha, cs, rfl⟩ | ⟨ha, hv⟩
  · obtain ⟨c, rfl⟩ := q1 (by rw [g5]; exact ha)
    have e1 : (Value.agg cs).cells.toList = cs.toList := rfl
    have e2 : (AV.agg c).cells = c := rfl
    rw [e1, e2] at y3
    have hl : cs.size = c.length := by simpa using y3.1.symm
    have get : ∀ (j : Nat) x, c[j]? = some x → cs.toList[j]? = some (cs.getD j default) := fun j x hj => by
      have hlt := (List.getElem?_eq_some_iff.1 hj).1
      rw [← hl] at hlt
      simp [Array.getD, hlt]
    exact .agg c cs hl (fun j x hj => (y3.2 j x _ hj (get j x hj)).1) (fun j x hj => (y3.2 j x _ hj (get j x hj)).2)
  · have h1 := q2 (by rw [g5]; exact ha)
    rw [AV.cells_one h1, hv] at y3
    exact (y3.2 0 y v rfl rfl).2
end
theorem sentinel_vr {w:World} {g tp:Nat} {a:Addr} {s:ByteArray} {text:List UInt8} (h1:w.cell? ⟨g,0,none⟩=some (.iface tp (.pointer (some a)))) (h2:w.cell? a=some (.string s)) (hs:s.data.toList=text) :
  VR 0 (lay0 w) w (.rop (.iface tp (.rop (.agg [.str text])))) (.pointer (some ⟨g,0,none⟩)):=by
 have hspot:=World.cell?_spot h2
 obtain ⟨b,o,spot⟩:=a
 dsimp only at hspot
 subst hspot
 have inner:VR 0 (lay0 w) w (.rop (.agg [.str text])) (.pointer (some ⟨b,o,none⟩)):=by
  refine .rop _ b o (fun _ => .string s) (fun j hj => ?_) (fun j c hc => ?_) (fun j c hc => ?_)
  ·have:j=0:=by simp [AV.cells] at hj;exact hj
   subst this
   exact ⟨h2,imm0 h2⟩
  ·cases j with
   | zero=>simp [AV.cells] at hc;subst hc;rfl
   | succ j=>simp [AV.cells] at hc
  ·cases j with
   | zero=>simp [AV.cells] at hc;subst hc;exact .str _ s hs
   | succ j=>simp [AV.cells] at hc
 refine .rop _ g 0 (fun _ => .iface tp (.pointer (some ⟨b,o,none⟩))) (fun j hj => ?_) (fun j c hc => ?_) (fun j c hc => ?_)
 ·have:j=0:=by simp [AV.cells] at hj;exact hj
  subst this
  exact ⟨h1,imm0 h1⟩
 ·cases j with
  | zero=>simp [AV.cells] at hc;subst hc;rfl
  | succ j=>simp [AV.cells] at hc
 ·cases j with
  | zero=>simp [AV.cells] at hc;subst hc;exact .iface _ _ _ inner
  | succ j=>simp [AV.cells] at hc
end Go.Proofs.YtanopbolgfcojaaGreatDoor.E
namespace Go.Proofs.YtanopbolgfcojaaGreatDoor.E
open Go Go.RowKit Go.Lib
section
variable {P:Program} {C:Cfg}
end
section
variable {P:Program} {C:Cfg} {call:CallF} {fl:Nat} {me:FuncId}
def bodyAt (C:Cfg) (f:FuncId) (r:Nat):Code:=match C.code f with
 | some fi=>(loopAt r fi.body).getD .skip
 | none => .skip
def flAt (C:Cfg) (f:FuncId) (fl:Nat) (hp:List Blk):Nat:=match C.kind f with | .pure=>hp.length | .new=>hp.length | _=>fl
def tailE (C:Cfg) (f:FuncId) (hp hpF:List Blk) (rs:List AV):Option (AV × List Blk):=match C.kind f with
 | .pure=>match shutV hpF hp.length 100000 (one rs) with
  | some v=>some (v,hp)
  | none=>none
 | .mut=>bif !cloH hp.length (hpF.take hp.length) then none else
  match shutV hpF hp.length 100000 (one rs) with
  | some v=>some (v,hpF.take hp.length)
  | none=>none
 | .keep=>some (one rs,hpF)
 | .new=>some (one rs,hpF)
theorem tail_keep {f:FuncId} {hp hpF:List Blk} {rs:List AV} (hk:C.kind f = .keep):tailE C f hp hpF rs=some (one rs,hpF):=by unfold tailE;rw [hk]
theorem tail_pure {f:FuncId} {hp hpF:List Blk} {rs:List AV} {v:AV} (hk:C.kind f = .pure) (hs:shutV hpF hp.length 100000 (one rs)=some v):tailE C f hp hpF rs=some (v,hp):=by unfold tailE;rw [hk];simp only [hs]
theorem tail_mut {f:FuncId} {hp hpF hp':List Blk} {rs:List AV} {v:AV} (hk:C.kind f = .mut) (ht:hpF.take hp.length=hp') (hc:cloH hp.length hp'=true) (hs:shutV hpF hp.length 100000 (one rs)=some v):tailE C f hp hpF rs=some (v,hp'):=by
 unfold tailE;rw [hk];subst ht;simp only [hs,hc,Bool.not_true,cond_false rfl]
theorem blk_set {hp:List Blk} {b:Nat} {cs:List AV} (h:b < hp.length):blkCells (setAt hp b (.cells cs)) b=some cs:=by
 unfold blkCells;rw [setAt_eq,getAt_eq,List.getElem?_set_self h]
theorem blk_set_ne {hp:List Blk} {b c:Nat} {x:Blk} {cs:List AV} (hn:c≠b) (h:blkCells hp b=some cs):blkCells (setAt hp c x) b=some cs:=by
 unfold blkCells at *;rw [setAt_eq,getAt_eq,List.getElem?_set_ne hn,← getAt_eq];exact h
theorem blk_last {hp:List Blk} {cs:List AV} {rest:List Blk}:blkCells (hp ++ .cells cs::rest) hp.length=some cs:=by
 unfold blkCells;rw [getAt_eq,List.getElem?_append_right (Nat.le_refl _),Nat.sub_self];rfl
theorem getAt_app {hp:List Blk} {b:Nat} {x:Blk} {rest:List Blk} (h:getAt hp b=some x):getAt (hp++rest) b=some x:=by
 rw [getAt_eq] at *;obtain ⟨h1,h2⟩:=List.getElem?_eq_some_iff.1 h;rw [List.getElem?_append_left h1];exact h
theorem blk_app {hp:List Blk} {b:Nat} {cs:List AV} {rest:List Blk} (h:blkCells hp b=some cs):blkCells (hp++rest) b=some cs:=by
 unfold blkCells at *
 split at h
 ·rename_i c hc;cases h;rw [getAt_app hc]
 ·cases h
theorem blk_lt {hp:List Blk} {b:Nat} {cs:List AV} (h:blkCells hp b=some cs):b < hp.length:=by
 unfold blkCells at h
 split at h
 ·rename_i c hc;rw [getAt_eq] at hc;exact (List.getElem?_eq_some_iff.1 hc).1
 ·cases h
theorem setAt_length {α:Type} (l:List α) (i:Nat) (x:α):(setAt l i x).length=l.length:=by rw [setAt_eq];simp
theorem setAt_app {hp:List Blk} {b:Nat} {x:Blk} {rest:List Blk} (h:b < hp.length):setAt (hp++rest) b x=setAt hp b x++rest:=by
 simp only [setAt_eq];rw [List.set_append_left _ _ h]
def ldC (C:Cfg) (t:TypeId) (cs:List AV) (off:Nat):Option AV:=match C.ty t with
 | some ti=>part ti cs off
 | none=>none
theorem load_ok {t:TypeId} {b off:Nat} {hp:List Blk} {cs:List AV} {x:AV} (h:blkCells hp b=some cs) (hx:ldC C t cs off=some x):∀ ts,loadAt C ⟨ts,hp⟩ t (.v (.ptr b off))=some ⟨.v x,ts,hp, .hb b⟩:=by
 intro ts;unfold loadAt;unfold ldC at hx
 split at hx
 ·rename_i ti ht;simp only [ht,h,hx,Option.map_some]
 ·cases hx
def stC (C:Cfg) (t:TypeId) (cs:List AV) (off:Nat) (x:AV):Option (List AV):=match C.ty t with
 | some ti=>bif x.cells.length==ti.size&&x.noTup&&decide (off + ti.size≤cs.length) then some (splice cs off x.cells) else none
 | none=>none
theorem store_ok {t:TypeId} {b off fl:Nat} {hp hp':List Blk} {cs cs':List AV} {x:AV} (h:blkCells hp b=some cs) (hx:stC C t cs off x=some cs') (hf:fl≤b)
  (hh:setAt hp b (.cells cs')=hp'):∀ ts,storeAt C fl ⟨ts,hp⟩ t (.v (.ptr b off)) x=some ⟨.sk,ts,hp', .hw⟩:=by
 intro ts;unfold storeAt;unfold stC at hx;subst hh
 split at hx
 ·rename_i ti ht
  cases hc:(x.cells.length==ti.size&&x.noTup&&decide (off + ti.size≤cs.length)) with
  | false=>rw [hc] at hx;cases hx
  | true =>
   rw [hc,cond_true rfl] at hx
   cases hx
   simp only [Bool.and_eq_true] at hc
   simp only [ht,h,hc.1.1,hc.1.2,hc.2,decide_eq_true hf,Bool.not_true,Bool.or_false,Bool.and_true,cond_false rfl,cond_true rfl]
 ·cases hx
theorem wrap_i64 {n:Int} (h : -9223372036854775808≤n) (h':n≤9223372036854775807):IntKind.wrap .i64 n=n:=by
 unfold IntKind.wrap;simp [IntKind.bits,IntKind.signed];omega
theorem wrap_u64 {n:Int} (h:0≤n) (h':n < 18446744073709551616):IntKind.wrap .u64 n=n:=by
 unfold IntKind.wrap;simp [IntKind.bits,IntKind.signed];omega
theorem wrap_u8 {n:Int} (h:0≤n) (h':n < 256):IntKind.wrap .u8 n=n:=by
 unfold IntKind.wrap;simp [IntKind.bits,IntKind.signed];omega
def isStr (C:Cfg) (t:TypeId):Bool:=match C.ty t with
 | some ⟨.string,_,_,_,_⟩=>true
 | _=>false
theorem isStr_ty {t:TypeId} (h:isStr C t=true):∃ a b c d,C.ty t=some ⟨.string,a,b,c,d⟩:=by
 unfold isStr at h
 split at h
 ·rename_i a b c d e;exact ⟨a,b,c,d,e⟩
 ·cases h
theorem index_str {t:TypeId} {s:List UInt8} {n:Int} {c:UInt8} (ht:isStr C t=true) (h0:0≤n) (h:s[n.toNat]?=some c):indexE C t (.str s) n=some (.int .u8 c.toNat):=by
 obtain ⟨a1,a2,a3,a4,ht⟩:=isStr_ty ht
 unfold indexE
 rw [decide_eq_false (by omega),cond_false rfl]
 simp only [ht,getAt_eq,h,Option.map_some]
theorem slice_str {t:TypeId} {s:List UInt8} {k k':IntKind} {n m:Int} (ht:isStr C t=true) (h0:0≤n) (h1:n≤m) (h2:m≤s.length) (st:St) :
  sliceE C st t (.v (.str s)) (some (.int k n)) (some (.int k' m)) none=some (.str ((s.drop n.toNat).take (m.toNat - n.toNat))):=by
 obtain ⟨a1,a2,a3,a4,ht⟩:=isStr_ty ht
 unfold sliceE
 simp only [ht,bnd]
 rw [decide_eq_false (by omega),cond_false rfl,decide_eq_false (by omega),cond_false rfl]
 dsimp only
 rw [decide_eq_true (by omega:n.toNat≤m.toNat),decide_eq_true (by omega:m.toNat≤s.length)]
 rfl
theorem strOp_add {x y:List UInt8} (h:x.length + y.length≤9223372036854775807):strOp .add x y=some (.str (x++y)):=by
 unfold strOp;rw [decide_eq_true h,cond_true rfl]
end
end Go.Proofs.YtanopbolgfcojaaGreatDoor.E
