/- Operations that are apart may change places: any order of a region comes to the text's; a code's soundness; what outlives a call. -/
import Derived.Test.YtkocimfdgdegfaaGreatDoorEd
import Derived.LoopN
set_option linter.unusedSimpArgs false
set_option linter.unusedVariables false
namespace Go.Proofs.YtkocimfdgdegfaaGreatDoor.E
open Go Go.RowKit Go.Lib
variable {P : Program} {C : Cfg}

/-- how an operation may touch memory: not at all; reading alone; somehow -/
def cls (o : Oper) : Nat := match o.op with
  | .load .. => 1
  | .slice .. => 1
  | .store .. => 2
  | .makeSlice .. => 2
  | .buildSlice .. => 2
  | .alloc .. => 2
  | .box .. => 2
  | .convert .. => 2
  | .call c => match c.callee with
    | .builtin b => (match b with | .len => 0 | .min => 0 | .max => 0 | _ => 2)
    | _ => 2
  | _ => 0

def NB (r : Res) : Prop := (∀ cs, r.val ≠ .bx cs) ∧ ∀ d, r.fp ≠ .bx d

structure Facts (o : Oper) (r : Res) : Prop where
  bx : NB r ∨ ∃ d cs, r.fp = .bx d ∧ o.dst = some d ∧ r.val = .bx cs
  c0 : cls o = 0 → r.fp = .z
  c1 : cls o = 1 → r.fp = .z ∨ r.fp = .hr ∨ (∃ b, r.fp = .hb b) ∨ ∃ t, r.fp = .lr t

theorem ofO_nb {st : St} {x : Option AV} {r : Res} (h : ofO st x = some r) : NB r ∧ r.fp = .z := by
  obtain ⟨a, rfl, rfl⟩ := ofO_eq h
  exact ⟨⟨fun _ h => TV.noConfusion h, fun _ h => Fp.noConfusion h⟩, rfl⟩

theorem newBlk_nb {st : St} {cs : List AV} {mk : Nat → AV} {r : Res} (h : newBlk st cs mk = some r) : NB r := by
  simp only [newBlk, Option.some.injEq] at h
  subst h
  exact ⟨fun _ h => TV.noConfusion h, fun _ h => Fp.noConfusion h⟩

theorem loadAt_nb {st : St} {t : TypeId} {a : TV} {r : Res} (h : loadAt C st t a = some r) : NB r ∧ (r.fp = .z ∨ r.fp = .hr ∨ (∃ b, r.fp = .hb b) ∨ ∃ t, r.fp = .lr t) := by
  unfold loadAt at h
  split at h
  · cases h
  split at h
  · obtain ⟨h1, h2⟩ := ofO_nb h; exact ⟨h1, .inl h2⟩
  · split at h
    · simp only [Option.map_eq_some_iff] at h
      obtain ⟨x, _, rfl⟩ := h
      exact ⟨⟨fun _ h => TV.noConfusion h, fun _ h => Fp.noConfusion h⟩, .inr (.inr (.inl ⟨_, rfl⟩))⟩
    · cases h
  · split at h
    · simp only [Option.map_eq_some_iff] at h
      obtain ⟨x, _, rfl⟩ := h
      exact ⟨⟨fun _ h => TV.noConfusion h, fun _ h => Fp.noConfusion h⟩, .inr (.inr (.inr ⟨_, rfl⟩))⟩
    · cases h
  · cases h

theorem storeAt_nb {fl : Nat} {st : St} {t : TypeId} {a : TV} {x : AV} {r : Res} (h : storeAt C fl st t a x = some r) : NB r := by
  unfold storeAt at h
  simp only [cond_eq_ite] at h
  repeat' (first | (cases h; done) | split at h)
  all_goals (cases h; exact ⟨fun _ h => TV.noConfusion h, fun _ h => Fp.noConfusion h⟩)

theorem appendE_nb {fl : Nat} {arrM : Bool} {st : St} {t t2 : TypeId} {s x : AV} {r : Res} (h : appendE C fl arrM st t t2 s x = some r) : NB r := by
  unfold appendE at h
  simp only [cond_eq_ite] at h
  repeat' (first | (cases h; done) | split at h)
  all_goals (cases h; exact ⟨fun _ h => TV.noConfusion h, fun _ h => by first | exact Fp.noConfusion h | (dsimp only at h; split at h <;> cases h)⟩)

theorem builtinE_nb {fl : Nat} {arrM : Bool} {st : St} {b : Builtin} {ts : List TypeId} {args : List AV} {r : Res} (h : builtinE C fl arrM st b ts args = some r) :
    NB r ∧ ((b = .len ∨ b = .min ∨ b = .max) → r.fp = .z) := by
  unfold builtinE at h
  split at h
  · obtain ⟨h1, h2⟩ := ofO_nb h; exact ⟨h1, fun _ => h2⟩
  · obtain ⟨h1, h2⟩ := ofO_nb h; exact ⟨h1, fun _ => h2⟩
  · exact ⟨appendE_nb h, fun h => by rcases h with h | h | h <;> cases h⟩
  · refine ⟨?_, fun h => by rcases h with h | h | h <;> cases h⟩
    unfold copyE at h
    simp only [cond_eq_ite] at h
    repeat' (first | (cases h; done) | split at h)
    all_goals (cases h; exact ⟨fun _ h => TV.noConfusion h, fun _ h => Fp.noConfusion h⟩)
  · refine ⟨?_, fun h => by rcases h with h | h | h <;> cases h⟩
    unfold clearE at h
    simp only [cond_eq_ite] at h
    repeat' (first | (cases h; done) | split at h)
    all_goals (cases h; exact ⟨fun _ h => TV.noConfusion h, fun _ h => Fp.noConfusion h⟩)
  · obtain ⟨h1, h2⟩ := ofO_nb h; exact ⟨h1, fun _ => h2⟩
  · obtain ⟨h1, h2⟩ := ofO_nb h; exact ⟨h1, fun _ => h2⟩
  · cases h

theorem convE_nb {arrM : Bool} {st : St} {s d : TypeId} {x : AV} {r : Res} (h : convE C arrM st s d x = some r) : NB r := by
  unfold convE at h
  split at h
  · exact (ofO_nb h).1
  · exact (ofO_nb h).1
  · split at h
    · cases arrM with
      | true => rw [cond_true rfl] at h; exact newBlk_nb h
      | false => rw [cond_false rfl] at h; exact (ofO_nb h).1
    · cases h
  · simp only [cond_eq_ite] at h
    split at h
    · cases h
    split at h
    · split at h
      · simp only [Option.map_eq_some_iff] at h
        obtain ⟨l, hl, rfl⟩ := h
        exact ⟨fun _ h => TV.noConfusion h, fun _ h => Fp.noConfusion h⟩
      · cases h
    · cases h
  · cases h

theorem callE_nb {call : CallF} {st : St} {f : FuncId} {args : List AV} {r : Res} (h : callE C call st f args = some r) : NB r := by
  unfold callE at h
  split at h
  · cases h
    refine ⟨fun _ h => TV.noConfusion h, fun _ h => ?_⟩
    dsimp only at h
    unfold callFp at h
    cases hk : keepsB C f <;> rw [hk] at h <;> cases h
  · cases h

theorem Facts.pure {o : Oper} {r : Res} (h : NB r ∧ r.fp = .z) : Facts o r := ⟨.inl h.1, fun _ => h.2, fun _ => .inl h.2⟩
theorem Facts.two {o : Oper} {r : Res} (h : NB r) (hc : cls o = 2) : Facts o r := ⟨.inl h, fun h => (by rw [hc] at h; cases h), fun h => (by rw [hc] at h; cases h)⟩
theorem fieldAddr_nbx {t : TypeId} {i : Nat} {a x : TV} (h : fieldAddr C t i a = some x) : ∀ cs, x ≠ .bx cs := by
  unfold fieldAddr at h
  simp only [cond_eq_ite] at h
  repeat' (first | (cases h; done) | split at h)
  all_goals first
    | (simp only [Option.map_eq_some_iff] at h; obtain ⟨_, _, rfl⟩ := h; exact fun _ h => TV.noConfusion h)
    | (cases h; exact fun _ h => TV.noConfusion h)
theorem indexAddr_nbx {t : TypeId} {i : Int} {a x : TV} (h : indexAddr C t a i = some x) : ∀ cs, x ≠ .bx cs := by
  unfold indexAddr at h
  simp only [cond_eq_ite] at h
  repeat' (first | (cases h; done) | split at h)
  all_goals first
    | (simp only [Option.map_eq_some_iff] at h; obtain ⟨_, _, rfl⟩ := h; exact fun _ h => TV.noConfusion h)
    | (cases h; exact fun _ h => TV.noConfusion h)

theorem pureR_nb {st : St} {x : TV} {r : Res} (h : pureR st x = some r) (hx : ∀ cs, x ≠ .bx cs) : NB r ∧ r.fp = .z := by
  have := pureR_eq h; subst this
  exact ⟨⟨hx, fun _ h => Fp.noConfusion h⟩, rfl⟩

theorem evOp_facts {call : CallF} {fl : Nat} {me : FuncId} {o : Oper} {st : St} {r : Res} (h : evOp C call fl me o st = some r) : Facts o r := by
  unfold evOp at h
  split at h
  · rename_i x hop
    simp only [Option.bind_eq_some_iff] at h
    obtain ⟨y, hy, h⟩ := h
    exact .pure (pureR_nb h (opnd_notBx hy))
  · rename_i x hop
    simp only [Option.bind_eq_some_iff] at h
    obtain ⟨y, hy, h⟩ := h
    exact .pure (pureR_nb h (opnd_notBx hy))
  · rename_i c a b hop
    split at h
    · simp only [Option.bind_eq_some_iff] at h
      obtain ⟨y, hy, h⟩ := h
      exact .pure (pureR_nb h (opnd_notBx hy))
    · cases h
  · rename_i e hop
    have hc : cls o = 2 := by unfold cls; rw [hop]
    split at h
    · cases h
    simp only [cond_eq_ite] at h
    split at h
    · cases h
    split at h
    · cases h
    rename_i d hd
    split at h
    · cases h
      exact ⟨.inr ⟨d, _, rfl, hd, rfl⟩, fun h => (by rw [hc] at h; cases h), fun h => (by rw [hc] at h; cases h)⟩
    · exact .two (newBlk_nb h) hc
  · rename_i e x hop
    have hc : cls o = 2 := by unfold cls; rw [hop]
    split at h
    case h_2 => cases h
    rename_i a d ha hd
    simp only [cond_eq_ite] at h
    split at h
    · cases h
    split at h
    · cases h
      exact ⟨.inr ⟨d, _, rfl, hd, rfl⟩, fun h => (by rw [hc] at h; cases h), fun h => (by rw [hc] at h; cases h)⟩
    · exact .two (newBlk_nb h) hc
  · split at h
    · simp only [cond_eq_ite] at h
      split at h
      · exact .pure (ofO_nb h)
      · cases h
    · cases h
  · rename_i t len ps hop
    have hc : cls o = 2 := by unfold cls; rw [hop]
    split at h
    · split at h
      · cases h
      split at h
      · cases h
      split at h
      · cases h
      simp only [cond_eq_ite] at h
      split at h
      · cases h
      split at h
      · exact .two (newBlk_nb h) hc
      · exact .two (ofO_nb h).1 hc
    · cases h
  · rename_i t x hop
    have hc : cls o = 1 := by unfold cls; rw [hop]
    simp only [Option.bind_eq_some_iff] at h
    obtain ⟨y, hy, h⟩ := h
    obtain ⟨h1, h2⟩ := loadAt_nb h
    exact ⟨.inl h1, fun h => (by rw [hc] at h; cases h), fun _ => h2⟩
  · rename_i t x y hop
    have hc : cls o = 2 := by unfold cls; rw [hop]
    split at h
    · exact .two (storeAt_nb h) hc
    · cases h
  · split at h
    all_goals first
      | exact .pure (pureR_nb h fun _ h => TV.noConfusion h)
      | cases h
  · split at h
    · exact .pure (ofO_nb h)
    · cases h
  · split at h
    · exact .pure (ofO_nb h)
    · cases h
  · rename_i s d x hop
    have hc : cls o = 2 := by unfold cls; rw [hop]
    split at h
    · exact .two (convE_nb h) hc
    · cases h
  · split at h
    · split at h
      · cases h
      · exact .pure (ofO_nb h)
    · cases h
  · split at h
    · exact .pure (ofO_nb h)
    · cases h
  · rename_i t l c hop
    have hc : cls o = 2 := by unfold cls; rw [hop]
    split at h
    · split at h
      · cases h
      simp only [cond_eq_ite] at h
      split at h
      · exact .two (newBlk_nb h) hc
      · cases h
    · cases h
  · rename_i t x lo hi mx hop
    have hc : cls o = 1 := by unfold cls; rw [hop]
    split at h
    · rename_i a _ _ _ _ _ _ _
      simp only [Option.map_eq_some_iff] at h
      obtain ⟨y, hy, rfl⟩ := h
      have : slFp a = .z ∨ slFp a = .hr := by
        cases a with
        | v z => cases z <;> first | exact .inl rfl | exact .inr rfl
        | _ => exact .inl rfl
      exact ⟨.inl ⟨fun _ h => TV.noConfusion h, fun d h => by rcases this with e | e <;> (dsimp only at h; rw [e] at h; cases h)⟩, fun h => (by rw [hc] at h; cases h), fun _ => this.imp id .inl⟩
    · cases h
  · split at h
    · simp only [Option.bind_eq_some_iff] at h
      obtain ⟨y, hy, h⟩ := h
      exact .pure (pureR_nb h (fieldAddr_nbx hy))
    · cases h
  · split at h
    · split at h
      · exact .pure (ofO_nb h)
      · cases h
    · cases h
  · split at h
    · simp only [Option.bind_eq_some_iff] at h
      obtain ⟨y, hy, h⟩ := h
      exact .pure (pureR_nb h (indexAddr_nbx hy))
    · cases h
  · split at h
    · exact .pure (ofO_nb h)
    · cases h
  · split at h
    · exact .pure (ofO_nb h)
    · cases h
  · rename_i c hop
    split at h
    · cases h
    split at h
    · rename_i b hcb
      obtain ⟨h1, h2⟩ := builtinE_nb h
      have hc : ∀ n, cls o = n → (b = .len ∨ b = .min ∨ b = .max) ∧ n = 0 ∨ n = 2 := fun n hn => by
        unfold cls at hn; rw [hop] at hn; simp only [hcb] at hn
        cases b <;> first | exact .inr hn.symm | exact .inl ⟨by simp, hn.symm⟩
      refine ⟨.inl h1, fun hz => ?_, fun hz => ?_⟩
      · rcases hc _ hz with h | h
        · exact h2 h.1
        · cases h
      · rcases hc _ hz with h | h
        · cases h.2
        · cases h
    · rename_i f hcf
      have hc : cls o = 2 := by unfold cls; rw [hop]; simp only [hcf]
      split at h
      · exact .two (callE_nb h) hc
      · cases h
    · cases h
  · cases h
end Go.Proofs.YtkocimfdgdegfaaGreatDoor.E

namespace Go.Proofs.YtkocimfdgdegfaaGreatDoor.E
open Go Go.RowKit Go.Lib
variable {P : Program} {C : Cfg} {call : CallF} {fl : Nat} {me : FuncId} {ops : Array Oper}

/-- an operation or its omission -/
def evSel (C : Cfg) (call : CallF) (fl : Nat) (me : FuncId) (ops : Array Oper) (o : Oper) (st : St) : Option Res :=
  match wantedE ops.toList st.tmps o with
  | some true => evOp C call fl me o st
  | some false => some ⟨.sk, st.tmps, st.hp, .z⟩
  | none => none

theorem evOne_sel {o : Oper} {st st' : St} {f : Fp} : evOne C call fl me ops.toList o st = some (st', f) ↔
    ∃ r t, evSel C call fl me ops o st = some r ∧ put r.tmps o.dst r.val = some t ∧ st' = ⟨t, r.hp⟩ ∧ f = r.fp := by
  unfold evOne evSel
  constructor
  · intro h
    split at h
    · split at h
      · rename_i r hr
        split at h
        · rename_i t ht; cases h; exact ⟨r, t, by simp only [*], ht, rfl, rfl⟩
        · cases h
      · cases h
    · split at h
      · rename_i t ht; cases h; exact ⟨⟨.sk, st.tmps, st.hp, .z⟩, t, by simp only [*], ht, rfl, rfl⟩
      · cases h
    · cases h
  · rintro ⟨r, t, hr, ht, rfl, rfl⟩
    split at hr
    · simp only [*]
    · cases hr; dsimp only at ht ⊢; simp only [*]
    · cases hr

def view (ts : List TV) (t : Nat) : Option TV :=
  match getAt ts t with
  | some (.bx _) => some (.lp t 0)
  | x => x

def SameV (l : List Tmp) (ts ts' : List TV) : Prop := ∀ t ∈ l, view ts' t = view ts t

theorem opnd_tmp (ts : List TV) (t : Nat) : opnd C ts (.tmp t) = match view ts t with | some x => some x | none => some .sk := by
  unfold view
  simp only [opnd]
  cases getAt ts t with
  | none => rfl
  | some x => cases x <;> rfl

theorem opnd_view {ts ts' : List TV} {x : Operand} (h : ∀ t, x = .tmp t → view ts' t = view ts t) : opnd C ts' x = opnd C ts x := by
  cases x with
  | tmp t => rw [opnd_tmp, opnd_tmp, h t rfl]
  | _ => rfl

theorem wanted_view {o : Oper} {ts ts' : List TV} (h : ∀ j want g d, o.guard = some (j, want) → ops[j]? = some g → g.dst = some d → view ts' d = view ts d) :
    wantedE ops.toList ts' o = wantedE ops.toList ts o := by
  unfold wantedE
  cases hg : o.guard with
  | none => rfl
  | some p =>
    obtain ⟨j, want⟩ := p
    simp only [getAt_eq, Array.getElem?_toList]
    cases ho : ops[j]? with
    | none => rfl
    | some g =>
      cases hd : g.dst with
      | none => simp only [hd]
      | some d =>
        simp only [hd]
        have hv := h j want g d hg ho hd
        unfold view at hv
        rw [getAt_eq, getAt_eq] at hv
        generalize ts'[d]? = a at hv ⊢
        generalize ts[d]? = b at hv ⊢
        rcases a with _ | a <;> rcases b with _ | b <;> (try cases a) <;> (try cases b) <;> first
          | rfl
          | (cases hv; rfl)
          | (cases hv; done)

theorem looks_opnd {o : Oper} {ts ts' : List TV} (h : SameV (o.looksAt ops) ts ts') : SameOn C o ts ts' := fun x hx => opnd_view fun t ht => h t (by
  subst ht
  exact List.mem_append_left _ (List.mem_filterMap.2 ⟨.tmp t, by simpa using hx, rfl⟩))

theorem looks_wanted {o : Oper} {ts ts' : List TV} (h : SameV (o.looksAt ops) ts ts') : wantedE ops.toList ts' o = wantedE ops.toList ts o :=
  wanted_view fun j want g d hg ho hd => h d (by
    refine List.mem_append_right _ ?_
    simp only [hg, ho, Option.bind_some, hd, Option.toList_some, List.mem_singleton])

theorem evSel_local (hkeep : CallKeeps C call) {o : Oper} {st : St} {r : Res} (h : evSel C call fl me ops o st = some r) : LocalOp (evSel C call fl me ops o) (SameV (o.looksAt ops)) st r := by
  unfold evSel at h
  split at h
  · rename_i hw
    exact ((evOp_local hkeep h).weaken fun ts' => looks_opnd).congr fun ts' hp' q => by unfold evSel; simp only [looks_wanted q, hw]
  · rename_i hw
    cases h
    exact local_pure .sk .z (.inl rfl) rfl fun ts' hp' q => by unfold evSel; simp only [looks_wanted q, hw]
  · cases h

theorem evSel_facts {o : Oper} {st : St} {r : Res} (h : evSel C call fl me ops o st = some r) : Facts o r := by
  unfold evSel at h
  split at h
  · exact evOp_facts h
  · cases h; exact .pure ⟨⟨fun _ h => TV.noConfusion h, fun _ h => Fp.noConfusion h⟩, rfl⟩
  · cases h

def setD (ts : List TV) (dst : Option Nat) (v : TV) : List TV :=
  match dst with
  | some d => ts.set d v
  | none => ts

def Slot (ts : List TV) (d : Nat) : Prop := d < ts.length ∧ slotCells ts d = none

theorem put_iff {ts t' : List TV} {dst : Option Tmp} {v : TV} : put ts dst v = some t' ↔ t' = setD ts dst v ∧ ∀ d, dst = some d → Slot ts d := by
  unfold put
  cases dst with
  | none => simp [setD, eq_comm]
  | some d =>
    simp only [getAt_eq, setD, Slot, slotCells]
    constructor
    · intro h
      split at h
      · cases h
      · rename_i y hb hy
        cases h
        refine ⟨setAt_eq _ _ _, fun e he => ?_⟩
        cases he
        refine ⟨(List.getElem?_eq_some_iff.1 hy).1, ?_⟩
        rw [hy]
        cases y <;> first | rfl | exact (hb _ rfl).elim
      · cases h
    · rintro ⟨rfl, h⟩
      obtain ⟨h1, h2⟩ := h d rfl
      rw [List.getElem?_eq_getElem h1] at h2 ⊢
      cases hz : ts[d] <;> rw [hz] at h2 <;> first | (cases h2; done) | (simp only [setAt_eq])

theorem setD_view {ts : List TV} {dst : Option Nat} {v : TV} {t : Nat} (h : dst ≠ some t) : view (setD ts dst v) t = view ts t := by
  cases dst with
  | none => rfl
  | some d =>
    have hne : d ≠ t := fun e => h (by rw [e])
    simp only [view, setD, getAt_eq, List.getElem?_set_ne hne]

theorem setD_cells {ts : List TV} {dst : Option Nat} {v : TV} {t : Nat} (h : dst ≠ some t) : slotCells (setD ts dst v) t = slotCells ts t := by
  cases dst with
  | none => rfl
  | some d =>
    have hne : d ≠ t := fun e => h (by rw [e])
    simp only [slotCells, setD, getAt_eq, List.getElem?_set_ne hne]

theorem setD_len (ts : List TV) (dst : Option Nat) (v : TV) : (setD ts dst v).length = ts.length := by
  cases dst <;> simp [setD]

theorem setD_comm {ts : List TV} {a b : Option Nat} {u v : TV} (h : ∀ t, a = some t → b ≠ some t) : setD (setD ts a u) b v = setD (setD ts b v) a u := by
  cases a with
  | none => rfl
  | some a =>
    cases b with
    | none => rfl
    | some b => exact List.set_comm _ _ fun e => h a rfl (by rw [e])

def lwOf : Fp → Option Nat
  | .lw t => some t
  | _ => none

theorem wrS_eq (f : Fp) (c : List AV) (ts : List TV) : wrS f c ts = setD ts (lwOf f) (.bx c) := by
  cases f <;> first | rfl | exact setAt_eq _ _ _

theorem wrS_len (f : Fp) (c : List AV) (ts : List TV) : (wrS f c ts).length = ts.length := by rw [wrS_eq, setD_len]

theorem has_slot {ts : List TV} {t : Nat} {cs : List AV} (h : slotCells ts t = some cs) : ts[t]? = some (.bx cs) := by
  unfold slotCells at h
  rw [getAt_eq] at h
  split at h
  · rename_i cs' hc; cases h; exact hc
  · cases h

theorem wrS_view {f : Fp} {c : List AV} {ts : List TV} (h : Has f ts) (t : Nat) : view (wrS f c ts) t = view ts t := by
  rw [wrS_eq]
  by_cases ht : lwOf f = some t
  · cases f <;> first | (cases ht; done) | skip
    cases ht
    obtain ⟨cs, hcs⟩ := h
    have h1 := has_slot hcs
    simp only [lwOf, setD, view, getAt_eq, h1]
    rw [List.getElem?_set_self (List.getElem?_eq_some_iff.1 h1).1]
  · exact setD_view ht

theorem wrS_none {f : Fp} {c : List AV} {ts : List TV} (h : Has f ts) (t : Nat) : slotCells (wrS f c ts) t = none ↔ slotCells ts t = none := by
  rw [wrS_eq]
  by_cases ht : lwOf f = some t
  · cases f <;> first | (cases ht; done) | skip
    cases ht
    obtain ⟨cs, hcs⟩ := h
    have h1 := has_slot hcs
    rw [hcs]
    simp only [lwOf, setD, slotCells, getAt_eq]
    rw [List.getElem?_set_self (List.getElem?_eq_some_iff.1 h1).1]
    simp
  · rw [setD_cells ht]

theorem wrS_slot {f : Fp} {c : List AV} {ts : List TV} (h : Has f ts) (t : Nat) : Slot (wrS f c ts) t ↔ Slot ts t := by
  unfold Slot; rw [wrS_len, wrS_none h]

theorem setD_slot {ts : List TV} {dst : Option Nat} {v : TV} {t : Nat} (h : dst ≠ some t) : Slot (setD ts dst v) t ↔ Slot ts t := by
  unfold Slot; rw [setD_len, setD_cells h]

theorem slot_not {ts : List TV} {t : Nat} {cs : List AV} (h : slotCells ts t = some cs) : ¬ Slot ts t := fun k => by rw [k.2] at h; cases h

/-- Two operations that are apart, and do not clash, may change places. -/
theorem blk_old {hp x : List Blk} {b : Nat} (h : b < hp.length) : blkCells (hp ++ x) b = blkCells hp b := by
  unfold blkCells; rw [getAt_eq, getAt_eq, List.getElem?_append_left h]
theorem blk_more {hp x : List Blk} {b : Nat} {cs : List AV} (h : blkCells hp b = some cs) : blkCells (hp ++ x) b = some cs := by
  have : b < hp.length := by
    rcases Nat.lt_or_ge b hp.length with h' | h'
    · exact h'
    · exfalso
      unfold blkCells at h
      rw [getAt_eq, List.getElem?_eq_none h'] at h
      cases h
  rw [blk_old this]; exact h

theorem swap (hkeep : CallKeeps C call) {x y : Oper} {s s1 s2 : St} {fx fy : Fp} (hx : evOne C call fl me ops.toList x s = some (s1, fx)) (hy : evOne C call fl me ops.toList y s1 = some (s2, fy))
    (hap : x.apart ops y = true) (hcl : fx.clash fy = false) : ∃ s1', evOne C call fl me ops.toList y s = some (s1', fy) ∧ evOne C call fl me ops.toList x s1' = some (s2, fx) := by
  obtain ⟨p1, p2, p3⟩ := Oper.apart_spec hap
  obtain ⟨rx, tx, hxs, hxp, rfl, rfl⟩ := evOne_sel.1 hx
  obtain ⟨ry, ty, hys, hyp, rfl, rfl⟩ := evOne_sel.1 hy
  obtain ⟨cx, ax, bx, dx, lx⟩ := evSel_local hkeep hxs
  obtain ⟨cy, ay, by1, dy, ly⟩ := evSel_local hkeep hys
  have Fx := evSel_facts hxs
  obtain ⟨hxt, hxq⟩ := put_iff.1 hxp
  obtain ⟨hyt, hyq⟩ := put_iff.1 hyp
  clear hxp hyp hx hy
  subst hyt
  rw [bx] at hxt hxq
  subst hxt
  dsimp only at ay by1 dy ly
  rw [by1] at hyq
  have hxp := hxq
  have hyp := hyq
  -- the box that the second one touches is no box of the first one's
  have nd : ∀ t cs, (ry.fp = .lr t ∨ ry.fp = .lw t) → slotCells (setD (wrS rx.fp cx s.tmps) x.dst rx.val) t = some cs → x.dst ≠ some t := fun t cs hf hc hd => by
    have hsl := hxp t hd
    rw [hd] at hc
    have hv : rx.val = .bx cs := by
      have := has_slot hc
      simp only [setD] at this
      rw [List.getElem?_set_self hsl.1] at this
      exact Option.some.inj this
    rcases Fx.bx with hnb | ⟨d, cs', h1, h2, h3⟩
    · exact hnb.1 cs hv
    · rw [hd] at h2; cases h2
      rw [h1] at hcl
      rcases hf with hf | hf <;> rw [hf] at hcl <;> simp [Fp.clash] at hcl
  have nl : ∀ t, (ry.fp = .lr t ∨ ry.fp = .lw t) → lwOf rx.fp ≠ some t := fun t hf hl => by
    cases hfx : rx.fp <;> rw [hfx] at hl hcl <;> first | (cases hl; done) | skip
    cases hl
    rcases hf with hf | hf <;> rw [hf] at hcl <;> simp [Fp.clash] at hcl
  have same : ∀ t cs, (ry.fp = .lr t ∨ ry.fp = .lw t) → slotCells (setD (wrS rx.fp cx s.tmps) x.dst rx.val) t = some cs → slotCells s.tmps t = slotCells (setD (wrS rx.fp cx s.tmps) x.dst rx.val) t := fun t cs hf hc => by
    rw [setD_cells (nd t cs hf hc), wrS_eq, setD_cells (nl t hf)]
  have hasy : Has ry.fp s.tmps := by
    cases hf : ry.fp <;> rw [hf] at ay <;> try exact trivial
    case lr t => obtain ⟨cs, hc⟩ := ay; exact ⟨cs, (same t cs (.inl hf) hc).trans hc⟩
    case lw t => obtain ⟨cs, hc⟩ := ay; exact ⟨cs, (same t cs (.inr hf) hc).trans hc⟩
  have e1 := ly s.tmps s.hp (fun t ht => by
      rw [setD_view (fun h => p1 t h ht), wrS_view ax])
    (by
      cases hf : ry.fp <;> try exact trivial
      case lr t => rw [hf] at ay; obtain ⟨cs, hc⟩ := ay; exact same t cs (.inl hf) hc
      case lw t => rw [hf] at ay; obtain ⟨cs, hc⟩ := ay; exact same t cs (.inr hf) hc)
    (by
      cases hf : ry.fp <;> cases hg : rx.fp <;> rw [hf, hg] at hcl <;> first | (simp [Fp.clash] at hcl; done) | skip
      all_goals (rw [hg] at dx; first
        | exact trivial
        | exact dx.symm
        | (intro b cs hb; have dx : rx.hp = s.hp := dx; rw [dx] at hb; exact hb)
        | (intro cs hb; have dx : rx.hp = s.hp := dx; rw [dx] at hb; exact hb)
        | (obtain ⟨dx1, dx2, dx3⟩ := dx
           intro cs hb
           simp only [Fp.clash, decide_eq_false_iff_not] at hcl
           rw [dx3, blk_old (by omega)] at hb
           exact hb)))
  -- the slots
  have sy : ∀ d, y.dst = some d → Slot s.tmps d := fun d hd => by
    have h := (wrS_slot ay d).1 (hyp d hd)
    have hne : x.dst ≠ some d := fun h => p2 d h hd
    exact (wrS_slot ax d).1 ((setD_slot hne).1 h)
  have sx : ∀ d, x.dst = some d → Slot s.tmps d := fun d hd => (wrS_slot ax d).1 (hxp d hd)
  have nyx : ∀ t cs, slotCells s.tmps t = some cs → y.dst ≠ some t := fun t cs hc hd => slot_not hc (sy t hd)
  have hne2 : ∀ t, (rx.fp = .lr t ∨ rx.fp = .lw t) → lwOf ry.fp ≠ some t := fun t hf hl => by
    cases hfy : ry.fp <;> rw [hfy] at hl hcl <;> first | (cases hl; done) | skip
    cases hl
    rcases hf with hf | hf <;> rw [hf] at hcl <;> simp [Fp.clash] at hcl
  have same2 : ∀ t cs, (rx.fp = .lr t ∨ rx.fp = .lw t) → slotCells s.tmps t = some cs → slotCells (setD (wrS ry.fp cy s.tmps) y.dst ry.val) t = slotCells s.tmps t := fun t cs hf hc => by
    rw [setD_cells (nyx t cs hc), wrS_eq, setD_cells (hne2 t hf)]
  refine ⟨⟨setD (wrS ry.fp cy s.tmps) y.dst ry.val, hpOut ry.fp ry.hp s.hp⟩, evOne_sel.2 ⟨_, _, e1, put_iff.2 ⟨rfl, fun d hd => (wrS_slot hasy d).2 (sy d hd)⟩, rfl, rfl⟩, ?_⟩
  have hasx : Has rx.fp (setD (wrS ry.fp cy s.tmps) y.dst ry.val) := by
    cases hf : rx.fp <;> rw [hf] at ax <;> try exact trivial
    case lr t => obtain ⟨cs, hc⟩ := ax; exact ⟨cs, (same2 t cs (.inl hf) hc).trans hc⟩
    case lw t => obtain ⟨cs, hc⟩ := ax; exact ⟨cs, (same2 t cs (.inr hf) hc).trans hc⟩
  have e2 := lx (setD (wrS ry.fp cy s.tmps) y.dst ry.val) (hpOut ry.fp ry.hp s.hp) (fun t ht => by
      rw [setD_view (fun h => p3 t h ht), wrS_view hasy])
    (by
      cases hf : rx.fp <;> try exact trivial
      case lr t => rw [hf] at ax; obtain ⟨cs, hc⟩ := ax; exact same2 t cs (.inl hf) hc
      case lw t => rw [hf] at ax; obtain ⟨cs, hc⟩ := ax; exact same2 t cs (.inr hf) hc)
    (by
      cases hf : rx.fp <;> cases hg : ry.fp <;> rw [hf, hg] at hcl <;> first | (simp [Fp.clash] at hcl; done) | skip
      all_goals (rw [hf] at dx; rw [hg] at dy; first
        | exact trivial
        | rfl
        | (intro b cs hb; exact hb)
        | (intro cs hb; exact hb)
        | (intro b cs hb; have dx : rx.hp = s.hp := dx; rw [dx] at dy; exact dy b cs hb)
        | (intro cs hb; have dx : rx.hp = s.hp := dx; rw [dx] at dy; exact dy _ cs hb)
        | (have dx : rx.hp = s.hp := dx
           obtain ⟨dy1, dy2, dy3⟩ := dy
           intro b cs hb
           rw [dx] at dy3
           have := blk_more (x := dy2) hb
           rw [← dy3] at this
           exact this)
        | (have dx : rx.hp = s.hp := dx
           obtain ⟨dy1, dy2, dy3⟩ := dy
           intro cs hb
           rw [dx] at dy3
           have := blk_more (x := dy2) hb
           rw [← dy3] at this
           exact this)))
  have hheap : hpOut rx.fp rx.hp (hpOut ry.fp ry.hp s.hp) = ry.hp := by
    cases hf : rx.fp <;> cases hg : ry.fp <;> rw [hf, hg] at hcl <;> first | (simp [Fp.clash] at hcl; done) | skip
    all_goals (rw [hf] at dx; rw [hg] at dy; first | rfl | exact dy.symm | exact (dy.trans dx).symm)
  rw [hheap] at e2
  refine evOne_sel.2 ⟨_, _, e2, put_iff.2 ⟨?_, fun d hd => (wrS_slot hasx d).2 ((setD_slot (fun h => p2 d hd h)).2 ((wrS_slot hasy d).2 (sx d hd)))⟩, rfl, rfl⟩
  rw [by1]
  simp only [wrS_eq]
  have q1 : ∀ t, lwOf ry.fp = some t → x.dst ≠ some t := fun t ht => by
    cases hf : ry.fp <;> rw [hf] at ht ay <;> first | (cases ht; done) | skip
    cases ht
    obtain ⟨cs, hc⟩ := ay
    exact nd _ cs (.inr hf) hc
  have q2 : ∀ t, lwOf rx.fp = some t → y.dst ≠ some t := fun t ht => by
    cases hf : rx.fp <;> rw [hf] at ht ax <;> first | (cases ht; done) | skip
    cases ht
    obtain ⟨cs, hc⟩ := ax
    exact nyx _ cs hc
  have q3 : ∀ t, lwOf ry.fp = some t → lwOf rx.fp ≠ some t := fun t ht => by
    cases hf : ry.fp <;> rw [hf] at ht <;> first | (cases ht; done) | skip
    cases ht
    exact nl _ (.inr hf)
  have swap4 : ∀ (a b c d : Option Nat) (ta tb tc td : TV) (ts : List TV), (∀ t, c = some t → b ≠ some t) → (∀ t, a = some t → d ≠ some t) → (∀ t, c = some t → a ≠ some t) → (∀ t, b = some t → d ≠ some t) →
      setD (setD (setD (setD ts a ta) b tb) c tc) d td = setD (setD (setD (setD ts c tc) d td) a ta) b tb := fun a b c d ta tb tc td ts h1 h2 h3 h4 => by
    rw [setD_comm (a := b) (b := c) fun t hb hc => h1 t hc hb, setD_comm (a := a) (b := c) fun t ha hc => h3 t hc ha, setD_comm (a := b) (b := d) h4, setD_comm (a := a) (b := d) h2]
  exact swap4 (lwOf rx.fp) x.dst (lwOf ry.fp) y.dst _ _ _ _ s.tmps q1 q2 q3 p2
end Go.Proofs.YtkocimfdgdegfaaGreatDoor.E

namespace Go.Proofs.YtkocimfdgdegfaaGreatDoor.E
open Go Go.RowKit Go.Lib
variable {P : Program} {C : Cfg} {call : CallF} {fl : Nat} {me : FuncId} {ops : Array Oper}

theorem Inv.drew {glob : Nat → Option AV} {B : Nat} {w0 w : World} {L : Lay} {hp : List Blk} (h : Inv glob B w0 L w hp) : Inv glob B w0 L w.drew hp := by
  have e : ∀ n, Ext n L w L w.drew := fun n => ⟨fun _ _ h => ⟨h, rfl⟩, fun _ _ _ h => ⟨h, fun _ _ h => h, rfl⟩, fun _ F _ h => ⟨F, h, .inl rfl⟩⟩
  refine ⟨h.below.drew, h.size, fun b cs hb => ?_, h.own, h.fams, h.spare, h.fresh, h.noLoc, h.noFam, fun g v hg => (h.globs g v hg).mono (Nat.le_refl _) (e 0)⟩
  obtain ⟨p, h1, h2, h3⟩ := h.blks b cs hb
  refine ⟨p, h1, h2, fun j c hj => ?_⟩
  obtain ⟨k1, k2, rv, k3, k4⟩ := h3 j c hj
  exact ⟨k1, k2, rv, k3, k4.mono (Nat.le_refl _) (e _)⟩

theorem Ext.drew (n : Nat) (L : Lay) (w : World) : Ext n L w L w.drew := ⟨fun _ _ h => ⟨h, rfl⟩, fun _ _ _ h => ⟨h, fun _ _ h => h, rfl⟩, fun _ F _ h => ⟨F, h, .inl rfl⟩⟩
theorem KeepLoc.drew (s : Nat) (L : Lay) (w : World) : KeepLoc s L w L w.drew := fun _ _ _ _ h => ⟨h, rfl, rfl⟩

theorem Post.trans {B : Nat} {w0 : World} {base : Nat} {L L1 : Lay} {w w1 : World} {n n1 : Nat} {hp' : List Blk} {ts' : List TV} {ds : List Deferred} {a' : Act} {w' : World} (hn : n ≤ n1) (he : Ext n L w L1 w1) (hk : KeepLoc base L w L1 w1) (hs : w.heap.size ≤ w1.heap.size)
    (h : Post C B w0 base L1 w1 n1 hp' ts' ds a' w') : Post C B w0 base L w n hp' ts' ds a' w' := by
  obtain ⟨L', h1, h2, h3, h4, h5, h6, h7⟩ := h
  exact ⟨L', h1, he.trans hn h2, hk.trans (Nat.le_refl _) h3, Nat.le_trans hs h4, Nat.le_trans hn h5, h6, h7⟩

theorem VR.bool_inv {n : Nat} {L : Lay} {w : World} {x : AV} {b : Bool} (h : VR n L w x (.bool b)) : x = .bool b := by cases h; rfl

theorem wanted_ok {n base : Nat} {L : Lay} {w : World} {ts : List TV} {rt : Array Value} {o : Oper} {b : Bool} (hF : FR n L w base ts rt) (h : wantedE ops.toList ts o = some b) : Region.wanted o (yielded ops rt) = b := by
  unfold wantedE at h
  unfold Region.wanted
  cases hg : o.guard with
  | none => rw [hg] at h; exact Option.some.inj h
  | some p =>
    obtain ⟨j, want⟩ := p
    rw [hg] at h
    simp only [getAt_eq, Array.getElem?_toList] at h ⊢
    unfold yielded
    cases ho : ops[j]? with
    | none => rw [ho] at h; simp only at h; cases h; rfl
    | some g =>
      rw [ho] at h
      simp only [Option.bind_some] at h ⊢
      cases hd : g.dst with
      | none => rw [hd] at h; simp only at h; cases h; rfl
      | some d =>
        rw [hd] at h
        simp only [Option.bind_some] at h ⊢
        cases hx : ts[d]? with
        | none => rw [hx] at h; cases h
        | some x =>
          have hd : d < rt.size := by have := (List.getElem?_eq_some_iff.1 hx).1; rw [hF.len] at this; exact this
          have hv := hF.slot d x hx
          rw [hx] at h
          have hrt : rt[d]? = some (rt.getD d undef) := by simp [Array.getD, hd]
          rw [hrt]
          cases x with
          | junk => cases h
          | bx cs => cases h
          | lp t off => cases h
          | sk =>
            cases h
            have hv : rt.getD d undef = undef := hv
            rw [hv]
            rfl
          | v y =>
            have hv : VR n L w y (rt.getD d undef) := hv
            generalize rt.getD d undef = v at hv ⊢
            by_cases hy : ∃ c, v = .bool c
            · obtain ⟨c, rfl⟩ := hy
              have := hv.bool_inv
              subst this
              cases h
              cases c <;> cases want <;> rfl
            · have hn : b = false := by
                cases y with
                | bool c => cases hv; exact absurd ⟨c, rfl⟩ hy
                | _ => cases h; rfl
              subst hn
              cases v with
              | bool c => exact absurd ⟨c, rfl⟩ hy
              | _ => rfl

section
variable {B base : Nat} {w0 w : World} {L : Lay} {ds : List Deferred} {Q : Exit → Act → World → Prop}

theorem one_ok (hT : TysOK P C) (hcall : CallOK P C call) {o : Oper} {j : Nat} (hj : ops[j]? = some o) {st st' : St} {f : Fp} {a : Act} {K : Act → World → Prop} (hI : Inv C.glob B w0 L w st.hp) (hF : FR st.hp.length L w base st.tmps a.tmps)
    (hd : a.defers = ds) (hBb : B ≤ base) (hbw : base ≤ w.heap.size) (h : evOne C call fl me ops.toList o st = some (st', f))
    (hK : ∀ a' w', Post C B w0 base L w st.hp.length st'.hp st'.tmps ds a' w' → K a' w') : wpOp P ops Q j K a w := by
  unfold wpOp
  simp only [hj]
  obtain ⟨r, t, hr, hp, rfl, rfl⟩ := evOne_sel.1 h
  obtain ⟨rt, ds'⟩ := a
  cases hd
  unfold evSel at hr
  split at hr
  · rename_i hw
    rw [wanted_ok hF hw, if_pos rfl]
    exact .inl (evOp_ok hT hcall hI hF hBb hbw hr hp hK)
  · rename_i hw
    rw [wanted_ok hF hw]
    simp only [Bool.false_eq_true, if_false]
    cases hr
    exact hK _ _ ⟨L, hI, Ext.refl _ _ _, KeepLoc.refl _ _ _, Nat.le_refl _, Nat.le_refl _, put_ok hp hF fun d _ => rfl, put_act _ _⟩
  · cases hr

/-- operations in the order of the text -/
theorem ops_ok (hT : TysOK P C) (hcall : CallOK P C call) (hBb : B ≤ base) : ∀ (l : List Oper) (k : Nat) (st st' : St) (fps : List Fp) (a : Act) (w : World) (L : Lay), (∀ j, l[j]? = ops[k + j]?) →
    Inv C.glob B w0 L w st.hp → FR st.hp.length L w base st.tmps a.tmps → a.defers = ds → base ≤ w.heap.size → runOps C call fl me ops.toList l st = some (st', fps) →
    (∀ a' w', Post C B w0 base L w st.hp.length st'.hp st'.tmps ds a' w' → Q .normal a' w') → wpOps P ops Q (List.range' k l.length) a w
  | [], k, st, st', fps, a, w, L, _, hI, hF, hd, _, h, hQ => by
    simp only [runOps, Option.some.injEq, Prod.mk.injEq] at h
    obtain ⟨rfl, _⟩ := h
    exact hQ _ _ ⟨L, hI, Ext.refl _ _ _, KeepLoc.refl _ _ _, Nat.le_refl _, Nat.le_refl _, hF, hd⟩
  | o :: l, k, st, st', fps, a, w, L, hl, hI, hF, hd, hbw, h, hQ => by
    have h0 : ops[k]? = some o := by simpa using (hl 0).symm
    simp only [runOps] at h
    split at h
    · rename_i st1 f h1
      split at h
      · rename_i st2 fs h2
        cases h
        rw [List.length_cons, List.range'_succ, wpOps_cons]
        refine one_ok hT hcall h0 hI hF hd hBb hbw h1 fun a1 w1 hp => ?_
        obtain ⟨L1, p1, p2, p3, p4, p5, p6, p7⟩ := hp
        exact ops_ok hT hcall hBb l (k + 1) st1 st' fs a1 w1 L1 (fun j => by have := hl (j + 1); simpa [Nat.add_assoc, Nat.add_comm 1 j] using this) p1 p6 p7 (by omega) h2
          fun a' w' hp => hQ a' w' (hp.trans p5 p2 p3 p4)
      · cases h
    · cases h

/-! ### operations in any order -/
def RunI (C : Cfg) (call : CallF) (fl : Nat) (me : FuncId) (ops : Array Oper) (φ : Nat → Fp) : List (Nat × Oper) → St → St → Prop
  | [], s, s' => s = s'
  | (i, o) :: rest, s, s' => ∃ s1, evOne C call fl me ops.toList o s = some (s1, φ i) ∧ RunI C call fl me ops φ rest s1 s'

def enumF : Nat → List Oper → List (Nat × Oper)
  | _, [] => []
  | k, o :: r => (k, o) :: enumF (k + 1) r

theorem runI_of {φ : Nat → Fp} : ∀ (l : List Oper) (k : Nat) (s s' : St) (fps : List Fp), runOps C call fl me ops.toList l s = some (s', fps) → (∀ j f, fps[j]? = some f → φ (k + j) = f) → RunI C call fl me ops φ (enumF k l) s s'
  | [], k, s, s', fps, h, _ => by simp only [runOps, Option.some.injEq, Prod.mk.injEq] at h; exact h.1
  | o :: l, k, s, s', fps, h, hφ => by
    simp only [runOps] at h
    split at h
    · rename_i st1 f h1
      split at h
      · rename_i st2 fs h2
        cases h
        refine ⟨st1, ?_, runI_of l (k + 1) st1 s' fs h2 fun j f hj => ?_⟩
        · have := hφ 0 f rfl; rw [show k = k + 0 from rfl, this]; exact h1
        · have := hφ (j + 1) f (by simpa using hj); rw [← this]; congr 1; omega
      · cases h
    · cases h

theorem mem_enumF : ∀ (l : List Oper) (k i : Nat) (o : Oper), (i, o) ∈ enumF k l ↔ k ≤ i ∧ l[i - k]? = some o
  | [], k, i, o => by simp [enumF]
  | x :: l, k, i, o => by
    simp only [enumF, List.mem_cons, Prod.mk.injEq, mem_enumF l (k + 1) i o]
    constructor
    · rintro (⟨rfl, rfl⟩ | ⟨h1, h2⟩)
      · simp
      · refine ⟨by omega, ?_⟩
        rw [show i - k = (i - (k + 1)) + 1 by omega]; simpa using h2
    · rintro ⟨h1, h2⟩
      by_cases hk : i = k
      · subst hk; simp at h2; exact .inl ⟨rfl, h2.symm⟩
      · refine .inr ⟨by omega, ?_⟩
        rw [show i - k = (i - (k + 1)) + 1 by omega] at h2; simpa using h2

theorem enumF_sorted : ∀ (l : List Oper) (k : Nat), (enumF k l).Pairwise fun p q => p.1 < q.1
  | [], k => by simp [enumF]
  | x :: l, k => by
    simp only [enumF, List.pairwise_cons]
    exact ⟨fun p hp => by obtain ⟨i, o⟩ := p; have := ((mem_enumF l (k + 1) i o).1 hp).1; show k < i; omega, enumF_sorted l (k + 1)⟩

theorem enumF_len : ∀ (l : List Oper) (k : Nat), (enumF k l).length = l.length
  | [], _ => rfl
  | _ :: l, k => by simp [enumF, enumF_len l]

theorem bubble (hkeep : CallKeeps C call) {φ : Nat → Fp} {j : Nat} {y : Oper} {post : List (Nat × Oper)} : ∀ (pre : List (Nat × Oper)) (s s' : St), RunI C call fl me ops φ (pre ++ (j, y) :: post) s s' →
    (∀ p ∈ pre, p.2.apart ops y = true ∧ (φ p.1).clash (φ j) = false) → ∃ s1, evOne C call fl me ops.toList y s = some (s1, φ j) ∧ RunI C call fl me ops φ (pre ++ post) s1 s'
  | [], s, s', h, _ => h
  | (i, x) :: pre, s, s', h, hp => by
    obtain ⟨s1, h1, h2⟩ := h
    obtain ⟨s2, h3, h4⟩ := bubble hkeep pre s1 s' h2 fun p hm => hp p (List.mem_cons_of_mem _ hm)
    obtain ⟨q1, q2⟩ := hp (i, x) (List.mem_cons_self ..)
    obtain ⟨s3, h5, h6⟩ := swap hkeep h1 h3 q1 q2
    exact ⟨s3, h5, s2, h6, h4⟩

/-- what the orders of a region need -/
structure Loose (ops : Array Oper) (φ : Nat → Fp) (bef : Nat → Nat → Prop) : Prop where
  back : ∀ (j : Nat) o e, ops[j]? = some o → e ∈ o.after → Region.binds .any e = true → e.on < j
  via : ∀ i j, bef i j → ∃ o, ops[j]? = some o ∧ ∃ e ∈ o.after, Region.binds .any e = true ∧ (e.on = i ∨ bef i e.on)
  free : ∀ (i j : Nat) x y, i < j → ops[i]? = some x → ops[j]? = some y → ¬ bef i j → x.apart ops y = true ∧ (φ i).clash (φ j) = false

theorem bef_listed {φ : Nat → Fp} {bef : Nat → Nat → Prop} (hl : Loose ops φ bef) {listed : Array Bool} (hcl : ∀ (j : Nat) o, ops[j]? = some o → listed.getD j false = true → ∀ e ∈ o.after, Region.binds .any e = true → listed.getD e.on false = true) :
    ∀ (j i : Nat) o, ops[j]? = some o → (∀ e ∈ o.after, Region.binds .any e = true → listed.getD e.on false = true) → bef i j → listed.getD i false = true := by
  intro j
  induction j using Nat.strongRecOn with
  | _ j ih =>
    intro i o ho hall hb
    obtain ⟨o', ho', e, he, hbind, h⟩ := hl.via i j hb
    rw [ho] at ho'; cases ho'
    rcases h with rfl | h
    · exact hall e he hbind
    · have hlt := hl.back j o e ho he hbind
      have hel := hall e he hbind
      obtain ⟨p, hp⟩ : ∃ p, ops[e.on]? = some p := by
        obtain ⟨p, hp, _⟩ := hl.via i e.on h
        exact ⟨p, hp⟩
      exact ih e.on hlt i p hp (hcl e.on p hp hel) h

theorem any_ok (hT : TysOK P C) (hcall : CallOK P C call) (hkeep : CallKeeps C call) (hBb : B ≤ base) {φ : Nat → Fp} {bef : Nat → Nat → Prop} (hl : Loose ops φ bef) : ∀ (fuel : Nat) (rest : List (Nat × Oper)) (listed : Array Bool) (s s' : St) (a : Act) (w : World) (L : Lay),
    rest.Pairwise (fun p q => p.1 < q.1) → (∀ i x, (i, x) ∈ rest ↔ ops[i]? = some x ∧ listed.getD i true = false) → listed.size = ops.size → rest.length ≤ fuel →
    (∀ (j : Nat) o, ops[j]? = some o → listed.getD j false = true → ∀ e ∈ o.after, Region.binds .any e = true → listed.getD e.on false = true) →
    Inv C.glob B w0 L w s.hp → FR s.hp.length L w base s.tmps a.tmps → a.defers = ds → base ≤ w.heap.size → RunI C call fl me ops φ rest s s' →
    (∀ a' w', Post C B w0 base L w s.hp.length s'.hp s'.tmps ds a' w' → Q .normal a' w') → wpAny P .any ops Q fuel listed a w := by
  intro fuel
  have none_of : ∀ (rest : List (Nat × Oper)) (listed : Array Bool), (∀ i x, (i, x) ∈ rest ↔ ops[i]? = some x ∧ listed.getD i true = false) → rest = [] → Region.ready .any ops listed = [] := fun rest listed hm hr => by
    apply List.eq_nil_iff_forall_not_mem.2
    intro j hj
    obtain ⟨h1, o, h2, _⟩ := mem_ready.1 hj
    have := (hm j o).2 ⟨h2, h1⟩
    rw [hr] at this
    cases this
  have fin : ∀ (rest : List (Nat × Oper)) (s s' : St) (a : Act) (w : World) (L : Lay), rest = [] → Inv C.glob B w0 L w s.hp → FR s.hp.length L w base s.tmps a.tmps → a.defers = ds → RunI C call fl me ops φ rest s s' →
      (∀ a' w', Post C B w0 base L w s.hp.length s'.hp s'.tmps ds a' w' → Q .normal a' w') → Q .normal a w := fun rest s s' a w L hr hI hF hd h hQ => by
    subst hr
    have h : s = s' := h
    subst h
    exact hQ _ _ ⟨L, hI, Ext.refl _ _ _, KeepLoc.refl _ _ _, Nat.le_refl _, Nat.le_refl _, hF, hd⟩
  induction fuel with
  | zero =>
    intro rest listed s s' a w L _ hm _ hlen _ hI hF hd _ h hQ
    have hr : rest = [] := List.eq_nil_of_length_eq_zero (by omega)
    exact ⟨none_of rest listed hm hr, fin rest s s' a w L hr hI hF hd h hQ⟩
  | succ fuel ih =>
    intro rest listed s s' a w L hs hm hsz hlen hcl hI hF hd hbw h hQ
    refine ⟨fun hn => ?_, fun j hj => ?_⟩
    · refine fin rest s s' a w L ?_ hI hF hd h hQ
      cases hrest : rest with
      | nil => rfl
      | cons p r =>
        exfalso
        obtain ⟨j, y⟩ := p
        obtain ⟨h1, h2⟩ := (hm j y).1 (by rw [hrest]; exact List.mem_cons_self ..)
        have : j ∈ Region.ready .any ops listed := mem_ready.2 ⟨h2, y, h1, fun e he hb => by
          have hlt := hl.back j y e h1 he hb
          have hjs := (Array.getElem?_eq_some_iff.1 h1).1
          have hes : e.on < listed.size := by omega
          cases hle : listed.getD e.on false with
          | true => rfl
          | false =>
            exfalso
            have h3 : (e.on, ops[e.on]'(by omega)) ∈ rest := (hm _ _).2 ⟨Array.getElem?_eq_getElem (by omega), by simp [hes] at hle ⊢; exact hle⟩
            rw [hrest] at h3 hs
            rcases List.mem_cons.1 h3 with h3 | h3
            · have := congrArg Prod.fst h3; dsimp only at this; omega
            · have := (List.pairwise_cons.1 hs).1 _ h3; dsimp only at this; omega⟩
        rw [hn] at this
        cases this
    · obtain ⟨hun, y, hy, hall⟩ := mem_ready.1 hj
      have hmem := (hm j y).2 ⟨hy, hun⟩
      obtain ⟨pre, post, rfl⟩ := List.append_of_mem hmem
      obtain ⟨hs1, hs2, hs3⟩ := List.pairwise_append.1 hs
      obtain ⟨hs4, hs5⟩ := List.pairwise_cons.1 hs2
      obtain ⟨s1, h1, h2⟩ := bubble hkeep pre s s' h fun p hp => by
        obtain ⟨i, x⟩ := p
        have hlt : i < j := hs3 _ hp _ (List.mem_cons_self ..)
        obtain ⟨hx, hix⟩ := (hm i x).1 (List.mem_append_left _ hp)
        refine hl.free i j x y hlt hx hy fun hb => ?_
        have := bef_listed hl hcl j i y hy hall hb
        have his := (Array.getElem?_eq_some_iff.1 hx).1
        have his : i < listed.size := by omega
        simp [his] at this hix
        rw [this] at hix
        cases hix
      refine one_ok hT hcall hy hI hF hd hBb hbw h1 fun a1 w1 hp => ?_
      obtain ⟨L1, p1, p2, p3, p4, p5, p6, p7⟩ := hp
      refine ih (pre ++ post) (listed.setIfInBounds j true) s1 s' a1 w1 L1 ?_ ?_ (by simpa using hsz) ?_ ?_ p1 p6 p7 (by omega) h2 fun a' w' hp => hQ a' w' (hp.trans p5 p2 p3 p4)
      · exact List.pairwise_append.2 ⟨hs1, hs5, fun p hp q hq => hs3 p hp q (List.mem_cons_of_mem _ hq)⟩
      · intro i x
        constructor
        · intro hi
          have hi' : (i, x) ∈ pre ++ (j, y) :: post := by
            rcases List.mem_append.1 hi with hi | hi
            · exact List.mem_append_left _ hi
            · exact List.mem_append_right _ (List.mem_cons_of_mem _ hi)
          obtain ⟨k1, k2⟩ := (hm i x).1 hi'
          refine ⟨k1, ?_⟩
          rw [getD_set_ne]
          · exact k2
          · rintro rfl
            rcases List.mem_append.1 hi with hi | hi
            · have := hs3 _ hi _ (List.mem_cons_self ..); dsimp only at this; omega
            · have := hs4 _ hi; dsimp only at this; omega
        · rintro ⟨k1, k2⟩
          have hne : j ≠ i := by
            rintro rfl
            have hjs := (Array.getElem?_eq_some_iff.1 hy).1
            have : j < listed.size := by omega
            simp [this] at k2
          rw [getD_set_ne true hne] at k2
          rcases List.mem_append.1 ((hm i x).2 ⟨k1, k2⟩) with hi | hi
          · exact List.mem_append_left _ hi
          · rcases List.mem_cons.1 hi with hi | hi
            · have := congrArg Prod.fst hi; dsimp only at this; exact absurd this.symm hne
            · exact List.mem_append_right _ hi
      · simp only [List.length_append, List.length_cons] at hlen ⊢; omega
      · intro k o ho hk e he hb
        by_cases hkj : k = j
        · subst hkj
          rw [hy] at ho; cases ho
          exact getD_set_true (hall e he hb)
        · rw [getD_set_ne false (Ne.symm hkj)] at hk
          exact getD_set_true (hcl k o ho hk e he hb)
end
end Go.Proofs.YtkocimfdgdegfaaGreatDoor.E

namespace Go.Proofs.YtkocimfdgdegfaaGreatDoor.E
open Go Go.RowKit Go.Lib
variable {P : Program} {C : Cfg} {call : CallF} {fl : Nat} {me : FuncId} {ops : Array Oper}

/-! ### what is told of a region's orders beforehand -/
def maskOf (acc : List Nat) (o : Oper) : Nat :=
  o.after.toList.foldl (fun s e => bif Region.binds .any e then s ||| (2 ^ e.on ||| (acc[e.on]?).getD 0) else s) 0

def masks : List Oper → List Nat → List Nat
  | [], acc => acc
  | o :: r, acc => masks r (acc ++ [maskOf acc o])

def Bef (l : List Oper) (i j : Nat) : Prop := ∃ m, (masks l [])[j]? = some m ∧ m.testBit i = true

theorem maskOf_fold (acc : List Nat) (i : Nat) : ∀ (es : List Edge) (s : Nat), (es.foldl (fun s e => bif Region.binds .any e then s ||| (2 ^ e.on ||| (acc[e.on]?).getD 0) else s) s).testBit i = true →
    s.testBit i = true ∨ ∃ e ∈ es, Region.binds .any e = true ∧ (e.on = i ∨ ((acc[e.on]?).getD 0).testBit i = true)
  | [], s, h => .inl h
  | e :: es, s, h => by
    rw [List.foldl_cons] at h
    rcases maskOf_fold acc i es _ h with h | ⟨e', h1, h2⟩
    · cases hb : Region.binds .any e with
      | false => rw [hb, cond_false rfl] at h; exact .inl h
      | true =>
        rw [hb, cond_true rfl, Nat.testBit_or, Nat.testBit_or, Bool.or_eq_true, Bool.or_eq_true, Nat.testBit_two_pow] at h
        rcases h with h | h | h
        · exact .inl h
        · exact .inr ⟨e, List.mem_cons_self .., hb, .inl (by simpa using h)⟩
        · exact .inr ⟨e, List.mem_cons_self .., hb, .inr h⟩
    · exact .inr ⟨e', List.mem_cons_of_mem _ h1, h2⟩

theorem masks_good (l : List Oper) : ∀ (r pre : List Oper) (acc : List Nat), l = pre ++ r → acc.length = pre.length →
    (∀ (j m : Nat), acc[j]? = some m → ∀ i, m.testBit i = true → ∃ o : Oper, l[j]? = some o ∧ ∃ e ∈ o.after, Region.binds .any e = true ∧ (e.on = i ∨ ∃ m', acc[e.on]? = some m' ∧ m'.testBit i = true)) →
    (∀ (j m : Nat), (masks r acc)[j]? = some m → ∀ i, m.testBit i = true → ∃ o : Oper, l[j]? = some o ∧ ∃ e ∈ o.after, Region.binds .any e = true ∧ (e.on = i ∨ ∃ m', (masks r acc)[e.on]? = some m' ∧ m'.testBit i = true))
  | [], pre, acc, _, _, h => h
  | o :: r, pre, acc, hl, hlen, h => by
    refine masks_good l r (pre ++ [o]) (acc ++ [maskOf acc o]) (by rw [hl]; simp) (by simp [hlen]) fun j m hj i hi => ?_
    have up : ∀ {k m'}, acc[k]? = some m' → (acc ++ [maskOf acc o])[k]? = some m' := fun {k m'} hk => by
      rw [List.getElem?_append_left (List.getElem?_eq_some_iff.1 hk).1]; exact hk
    by_cases hlt : j < acc.length
    · rw [List.getElem?_append_left hlt] at hj
      obtain ⟨o', h1, e, h2, h3, h4⟩ := h j m hj i hi
      exact ⟨o', h1, e, h2, h3, h4.imp id fun ⟨m', k1, k2⟩ => ⟨m', up k1, k2⟩⟩
    · have hjl := (List.getElem?_eq_some_iff.1 hj).1
      simp at hjl
      have hj' : j = acc.length := by omega
      subst hj'
      simp at hj
      subst hj
      rcases maskOf_fold acc i _ _ hi with h0 | ⟨e, h1, h2, h3⟩
      · simp at h0
      · refine ⟨o, by rw [hl, hlen]; simp, e, by simpa using h1, h2, h3.imp id fun hb => ?_⟩
        cases ha : acc[e.on]? with
        | none => rw [ha] at hb; simp at hb
        | some m' => rw [ha] at hb; exact ⟨m', up ha, by simpa using hb⟩

def harmless (x y : Oper) : Bool := cls x == 0 || cls y == 0 || (cls x == 1 && cls y == 1)

def looseB (prs : List (Nat × Nat)) (ops : Array Oper) : Bool :=
  let l := ops.toList
  let ms := masks l []
  let es := enumF 0 l
  es.all fun q => (q.2.after.toList.all fun e => !Region.binds .any e || decide (e.on < q.1)) &&
    es.all fun p => !decide (p.1 < q.1) || (((ms[q.1]?).getD 0).testBit p.1 || (p.2.apart ops q.2 && (harmless p.2 q.2 || prs.any fun x => x.1 == p.1 && x.2 == q.1)))

theorem noClash_spec {fps : List Fp} : ∀ {ps : List (Nat × Nat)}, noClash fps ps = true → ∀ p ∈ ps, ∃ a b, fps[p.1]? = some a ∧ fps[p.2]? = some b ∧ a.clash b = false
  | [], _, p, hp => by cases hp
  | (i, j) :: ps, h, p, hp => by
    simp only [noClash, getAt_eq, Bool.and_eq_true] at h
    obtain ⟨h1, h2⟩ := h
    rcases List.mem_cons.1 hp with rfl | hp
    · split at h1
      · rename_i a b ha hb; exact ⟨a, b, ha, hb, by simpa using h1⟩
      · cases h1
    · exact noClash_spec h2 p hp

theorem runI_facts {φ : Nat → Fp} : ∀ (l : List (Nat × Oper)) (s s' : St), RunI C call fl me ops φ l s s' → ∀ p ∈ l, (cls p.2 = 0 → φ p.1 = .z) ∧ (cls p.2 = 1 → φ p.1 = .z ∨ φ p.1 = .hr ∨ (∃ b, φ p.1 = .hb b) ∨ ∃ t, φ p.1 = .lr t)
  | [], _, _, _, p, hp => by cases hp
  | (i, o) :: l, s, s', h, p, hp => by
    obtain ⟨s1, h1, h2⟩ := h
    rcases List.mem_cons.1 hp with rfl | hp
    · obtain ⟨r, t, hr, _, _, hf⟩ := evOne_sel.1 h1
      have F := evSel_facts hr
      dsimp only
      rw [hf]
      exact ⟨F.c0, F.c1⟩
    · exact runI_facts l s1 s' h2 p hp

theorem clash_z (a : Fp) : Fp.clash .z a = false := by cases a <;> rfl
theorem clash_z' (a : Fp) : a.clash .z = false := by cases a <;> rfl

theorem loose_ok {prs : List (Nat × Nat)} {fps : List Fp} {s s' : St} (hb : looseB prs ops = true) (hn : noClash fps prs = true) (hr : RunI C call fl me ops (fun i => (fps[i]?).getD .z) (enumF 0 ops.toList) s s') :
    Loose ops (fun i => (fps[i]?).getD .z) (Bef ops.toList) := by
  have mem : ∀ (i : Nat) x, ops[i]? = some x → (i, x) ∈ enumF 0 ops.toList := fun i x h => (mem_enumF _ _ _ _).2 ⟨Nat.zero_le _, by simpa using h⟩
  unfold looseB at hb
  simp only [List.all_eq_true, Bool.and_eq_true] at hb
  refine ⟨fun j o e ho he hbd => ?_, fun i j hij => ?_, fun i j x y hlt hx hy hnb => ?_⟩
  · have := (hb _ (mem j o ho)).1 e (by simpa using he)
    simp [hbd] at this
    exact this
  · obtain ⟨m, hm, hi⟩ := hij
    obtain ⟨o, h1, e, h2, h3, h4⟩ := masks_good ops.toList ops.toList [] [] rfl rfl (fun j m h => by simp at h) j m hm i hi
    exact ⟨o, by simpa using h1, e, h2, h3, h4⟩
  · have h1 := (hb _ (mem j y hy)).2 _ (mem i x hx)
    have h0 : (((masks ops.toList [])[j]?).getD 0).testBit i = false := by
      cases ht : (((masks ops.toList [])[j]?).getD 0).testBit i with
      | false => rfl
      | true =>
        exfalso
        cases hm : (masks ops.toList [])[j]? with
        | none => rw [hm] at ht; simp at ht
        | some m => rw [hm] at ht; exact hnb ⟨m, hm, by simpa using ht⟩
    simp only [hlt, decide_true, Bool.not_true, Bool.false_or, h0, Bool.and_eq_true, Bool.or_eq_true] at h1
    refine ⟨h1.1, ?_⟩
    obtain ⟨x0, x1⟩ := runI_facts _ _ _ hr _ (mem i x hx)
    obtain ⟨y0, y1⟩ := runI_facts _ _ _ hr _ (mem j y hy)
    dsimp only at x0 x1 y0 y1 ⊢
    rcases h1.2 with h2 | h2
    · simp only [harmless, Bool.or_eq_true, Bool.and_eq_true, beq_iff_eq] at h2
      rcases h2 with (h2 | h2) | ⟨h2, h3⟩
      · rw [x0 h2]; exact clash_z _
      · rw [y0 h2]; exact clash_z' _
      · rcases x1 h2 with e | e | ⟨b, e⟩ | ⟨t, e⟩ <;> rcases y1 h3 with f | f | ⟨b', f⟩ | ⟨u, f⟩ <;> rw [e, f] <;> rfl
    · simp only [List.any_eq_true, Bool.and_eq_true, beq_iff_eq] at h2
      obtain ⟨p, hp, h3, h4⟩ := h2
      obtain ⟨a, b, ha, hb2, hc⟩ := noClash_spec hn p hp
      rw [h3] at ha
      rw [h4] at hb2
      rw [ha, hb2]
      exact hc

/-- every drawn region of a code is loose -/
def codeOK (C : Cfg) (me : FuncId) : Code → Bool
  | .region id ops draw => !draw || looseB (C.pairs me id) ops
  | .seq a b => codeOK C me a && codeOK C me b
  | .cond _ a b => codeOK C me a && codeOK C me b
  | .block _ a => codeOK C me a
  | .loop a => codeOK C me a
  | _ => true

def Ex.to : Ex → Exit
  | .normal => .normal
  | .exit id => .exit id
  | .ret => .ret

theorem cleanT_len : ∀ (ts : List TV) (m : Nat), (cleanT ts m).length = ts.length
  | [], _ => rfl
  | _ :: ts, m => by simp [cleanT, cleanT_len ts]

theorem cleanT_get : ∀ (ts : List TV) (m i : Nat) (x : TV), (cleanT ts m)[i]? = some x → x = .junk ∨ (ts[i]? = some x ∧ ∀ t o, x ≠ .lp t o)
  | [], _, i, x, h => by simp [cleanT] at h
  | y :: ts, m, 0, x, h => by
    simp only [cleanT, List.getElem?_cons_zero, Option.some.injEq] at h
    cases hm : (m % 2 == 1) with
    | false => rw [hm, cond_false rfl] at h; exact .inl h.symm
    | true =>
      rw [hm, cond_true rfl] at h
      cases y <;> first | exact .inl h.symm | (subst h; exact .inr ⟨rfl, fun _ _ h => TV.noConfusion h⟩)
  | y :: ts, m, i + 1, x, h => by
    simp only [cleanT, List.getElem?_cons_succ] at h
    exact cleanT_get ts (m / 2) i x h

theorem FR.clean {n base : Nat} {L : Lay} {w : World} {ts : List TV} {rt : Array Value} (hF : FR n L w base ts rt) (m : Nat) : FR n L w base (cleanT ts m) rt := by
  refine ⟨by rw [cleanT_len, hF.len], fun i x hx => ?_, fun i t off hi => ?_⟩
  · rcases cleanT_get ts m i x hx with rfl | ⟨h, _⟩
    · exact trivial
    · exact hF.slot i x h
  · rcases cleanT_get ts m i _ hi with h | ⟨h, h2⟩
    · cases h
    · exact absurd rfl (h2 t off)

theorem cleanSt_hp (m : Option Nat) (st : St) : (cleanSt m st).hp = st.hp := by cases m <;> rfl
theorem FR.cleanSt {n base : Nat} {L : Lay} {w : World} {st : St} {rt : Array Value} (hF : FR n L w base st.tmps rt) (m : Option Nat) : FR n L w base (cleanSt m st).tmps rt := by
  cases m with
  | none => exact hF
  | some m => exact hF.clean m

section
variable {B base : Nat} {w0 : World} {ds : List Deferred}

theorem region_ok (hT : TysOK P C) (hcall : CallOK P C call) (hkeep : CallKeeps C call) (hm : P.follows .mixedOrders = true) (hBb : B ≤ base) {id : Nat} {draw : Bool} (hc : codeOK C me (.region id ops draw) = true) {st st' : St} {fps : List Fp} {a : Act} {w : World} {L : Lay} {Q : Exit → Act → World → Prop}
    (hI : Inv C.glob B w0 L w st.hp) (hF : FR st.hp.length L w base st.tmps a.tmps) (hd : a.defers = ds) (hbw : base ≤ w.heap.size) (h : runOps C call fl me ops.toList ops.toList st = some (st', fps)) (hcl : (!draw || noClash fps (C.pairs me id)) = true)
    (hQ : ∀ a' w', Post C B w0 base L w st.hp.length st'.hp st'.tmps ds a' w' → Q .normal a' w') : (Code.region id ops draw).wp P Q a w := by
  cases draw with
  | false =>
    refine wp_region ?_
    rw [List.range_eq_range', ← Array.length_toList]
    exact ops_ok hT hcall hBb ops.toList 0 st st' fps a w L (fun j => by simp) hI hF hd hbw h hQ
  | true =>
    refine wp_region_any hm ?_
    have hlb : looseB (C.pairs me id) ops = true := by simpa [codeOK] using hc
    have hn : noClash fps (C.pairs me id) = true := by simpa using hcl
    have hr := runI_of (φ := fun i => (fps[i]?).getD .z) ops.toList 0 st st' fps h fun j f hj => by rw [Nat.zero_add, hj]; rfl
    have hl := loose_ok hlb hn hr
    refine any_ok hT hcall hkeep hBb hl ops.size (enumF 0 ops.toList) _ st st' a w.drew L (enumF_sorted _ _) (fun i x => ?_) (by simp) (by simp [enumF_len]) (fun j o ho hk => ?_) hI.drew
      (hF.mono (Nat.le_refl _) (Ext.drew _ _ _) (KeepLoc.drew _ _ _) (Nat.le_refl _)) hd hbw hr fun a' w' hp => hQ a' w' (hp.trans (Nat.le_refl _) (Ext.drew _ _ _) (KeepLoc.drew _ _ _) (Nat.le_refl _))
    · rw [mem_enumF]
      simp only [Nat.zero_le, true_and, Nat.sub_zero, Array.getElem?_toList]
      refine ⟨fun h => ⟨h, ?_⟩, fun h => h.1⟩
      have := (Array.getElem?_eq_some_iff.1 h).1
      simp [this]
    · have := (Array.getElem?_eq_some_iff.1 ho).1
      simp [this] at hk

theorem run_ok (hT : TysOK P C) (hcall : CallOK P C call) (hkeep : CallKeeps C call) (hm : P.follows .mixedOrders = true) (hBb : B ≤ base) (k : Nat) : ∀ (c : Code), codeOK C me c = true → ∀ (st st' : St) (e : Ex) (a : Act) (w : World) (L : Lay) (Q : Exit → Act → World → Prop),
    Inv C.glob B w0 L w st.hp → FR st.hp.length L w base st.tmps a.tmps → a.defers = ds → base ≤ w.heap.size → run C call fl me k c st = some (e, st') →
    (∀ a' w', Post C B w0 base L w st.hp.length st'.hp st'.tmps ds a' w' → Q e.to a' w') → c.wp P Q a w
  | .skip, _, st, st', e, a, w, L, Q, hI, hF, hd, hbw, h, hQ => by
    simp only [run, Option.some.injEq, Prod.mk.injEq] at h
    obtain ⟨rfl, rfl⟩ := h
    exact wp_skip (hQ _ _ ⟨L, hI, Ext.refl _ _ _, KeepLoc.refl _ _ _, Nat.le_refl _, Nat.le_refl _, hF, hd⟩)
  | .exit id, _, st, st', e, a, w, L, Q, hI, hF, hd, hbw, h, hQ => by
    simp only [run, Option.some.injEq, Prod.mk.injEq] at h
    obtain ⟨rfl, rfl⟩ := h
    exact wp_exit (hQ _ _ ⟨L, hI, Ext.refl _ _ _, KeepLoc.refl _ _ _, Nat.le_refl _, Nat.le_refl _, hF, hd⟩)
  | .ret, _, st, st', e, a, w, L, Q, hI, hF, hd, hbw, h, hQ => by
    simp only [run, Option.some.injEq, Prod.mk.injEq] at h
    obtain ⟨rfl, rfl⟩ := h
    exact wp_ret (hQ _ _ ⟨L, hI, Ext.refl _ _ _, KeepLoc.refl _ _ _, Nat.le_refl _, Nat.le_refl _, hF, hd⟩)
  | .region id ops draw, hc, st, st', e, a, w, L, Q, hI, hF, hd, hbw, h, hQ => by
    simp only [run] at h
    split at h
    · rename_i st1 fps h1
      cases hcl : (!draw || noClash fps (C.pairs me id)) with
      | false => rw [hcl] at h; cases h
      | true =>
        rw [hcl, cond_true rfl] at h
        cases h
        exact region_ok hT hcall hkeep hm hBb hc hI hF hd hbw h1 hcl hQ
    · cases h
  | .seq x y, hc, st, st', e, a, w, L, Q, hI, hF, hd, hbw, h, hQ => by
    simp only [codeOK, Bool.and_eq_true] at hc
    refine wp_seq ?_
    simp only [run] at h
    split at h
    · rename_i st1 h1
      refine run_ok hT hcall hkeep hm hBb k x hc.1 st st1 .normal a w L _ hI hF hd hbw h1 fun a1 w1 hp => ?_
      obtain ⟨L1, p1, p2, p3, p4, p5, p6, p7⟩ := hp
      exact run_ok hT hcall hkeep hm hBb k y hc.2 st1 st' e a1 w1 L1 Q p1 p6 p7 (by omega) h fun a' w' hp => hQ a' w' (hp.trans p5 p2 p3 p4)
    · rename_i hne
      refine run_ok hT hcall hkeep hm hBb k x hc.1 st st' e a w L _ hI hF hd hbw h fun a1 w1 hp => ?_
      cases e with
      | normal => exact absurd h (hne st')
      | exit id => exact hQ a1 w1 hp
      | ret => exact hQ a1 w1 hp
  | .cond c x y, hc, st, st', e, a, w, L, Q, hI, hF, hd, hbw, h, hQ => by
    simp only [codeOK, Bool.and_eq_true] at hc
    simp only [run] at h
    split at h
    · rename_i t ht
      have hv : a.eval c = .bool t := by
        have := opv_ok (ds := a.defers) hI hF ht
        obtain ⟨rt, ds'⟩ := a
        cases hv : (({ tmps := rt, defers := ds' } : Act).eval c) <;> rw [hv] at this <;> cases this
        rfl
      refine wp_cond hv ?_
      cases t with
      | true => rw [cond_true rfl] at h; rw [if_pos rfl]; exact run_ok hT hcall hkeep hm hBb k x hc.1 st st' e a w L Q hI hF hd hbw h hQ
      | false => rw [cond_false rfl] at h; rw [if_neg (by simp)]; exact run_ok hT hcall hkeep hm hBb k y hc.2 st st' e a w L Q hI hF hd hbw h hQ
    · cases h
  | .block id x, hc, st, st', e, a, w, L, Q, hI, hF, hd, hbw, h, hQ => by
    simp only [codeOK] at hc
    refine wp_block ?_
    simp only [run] at h
    split at h
    · rename_i j st1 h1
      refine run_ok hT hcall hkeep hm hBb k x hc st st1 (.exit j) a w L _ hI hF hd hbw h1 fun a1 w1 hp => ?_
      show if j = id then _ else _
      cases hj : (j == id) with
      | true =>
        rw [hj, cond_true rfl] at h; cases h
        rw [if_pos (by simpa using hj)]
        exact hQ a1 w1 hp
      | false =>
        rw [hj, cond_false rfl] at h; cases h
        rw [if_neg (by simpa using hj)]
        exact hQ a1 w1 hp
    · rename_i hne
      refine run_ok hT hcall hkeep hm hBb k x hc st st' e a w L _ hI hF hd hbw h fun a1 w1 hp => ?_
      cases e with
      | normal => exact hQ a1 w1 hp
      | exit id => exact absurd h (hne _ st')
      | ret => exact hQ a1 w1 hp
  | .loop x, hc, st, st', e, a, w, L, Q, hI, hF, hd, hbw, h, hQ => by
    simp only [codeOK] at hc
    simp only [run] at h
    refine wp_loop_rounds k ?_
    split at h
    case h_2 => cases h
    rename_i e' st2 h2
    cases h
    replace h := h2
    clear h2
    replace hQ : ∀ a' w', Post C B w0 base L w st.hp.length st2.hp st2.tmps ds a' w' → Q e.to a' w' := fun a' w' hp => hQ a' w' (by
      obtain ⟨L', p1, p2, p3, p4, p5, p6, p7⟩ := hp
      exact ⟨L', by rw [cleanSt_hp]; exact p1, p2, p3, p4, by rw [cleanSt_hp]; exact p5, by rw [cleanSt_hp]; exact p6.cleanSt _, p7⟩)
    generalize C.after me (firstReg x) = m2 at *
    revert hQ h
    generalize st2 = st'
    intro h hQ
    generalize hcm : C.loop me (firstReg x) = m at h
    have key : ∀ (n : Nat) (st : St) (a : Act) (w : World) (L : Lay), Inv C.glob B w0 L w st.hp → FR st.hp.length L w base st.tmps a.tmps → a.defers = ds → base ≤ w.heap.size → evLoop (run C call fl me k x) (cleanSt m) n st = some (e, st') →
        (∀ a' w', Post C B w0 base L w st.hp.length st'.hp st'.tmps ds a' w' → Q e.to a' w') → Code.rounds P x Q n a w := by
      intro n
      induction n with
      | zero => intro st a w L _ _ _ _ h; cases h
      | succ n ih =>
        intro st a w L hI hF hd hbw h hQ
        rw [rounds_succ]
        simp only [evLoop] at h
        have hI' : Inv C.glob B w0 L w (cleanSt m st).hp := by rw [cleanSt_hp]; exact hI
        have hF' : FR (cleanSt m st).hp.length L w base (cleanSt m st).tmps a.tmps := by rw [cleanSt_hp]; exact hF.cleanSt m
        rw [← cleanSt_hp m st] at hQ
        split at h
        · rename_i st1 h1
          refine run_ok hT hcall hkeep hm hBb k x hc (cleanSt m st) st1 .normal a w L _ hI' hF' hd hbw h1 fun a1 w1 hp => ?_
          obtain ⟨L1, p1, p2, p3, p4, p5, p6, p7⟩ := hp
          exact ih st1 a1 w1 L1 p1 p6 p7 (by omega) h fun a' w' hp => hQ a' w' (hp.trans p5 p2 p3 p4)
        · rename_i hne
          refine run_ok hT hcall hkeep hm hBb k x hc (cleanSt m st) st' e a w L _ hI' hF' hd hbw h fun a1 w1 hp => ?_
          cases e with
          | normal => exact absurd h (hne st')
          | exit id => exact hQ a1 w1 hp
          | ret => exact hQ a1 w1 hp
    exact key k st a w L hI hF hd hbw h hQ
  | .rangeFunc .., _, st, st', e, a, w, L, Q, _, _, _, _, h, _ => by simp [run] at h
  | .scope .., _, st, st', e, a, w, L, Q, _, _, _, _, h, _ => by simp [run] at h
  | .label .., _, st, st', e, a, w, L, Q, _, _, _, _, h, _ => by simp [run] at h
  | .goto .., _, st, st', e, a, w, L, Q, _, _, _, _, h, _ => by simp [run] at h
  | .refuse .., _, st, st', e, a, w, L, Q, _, _, _, _, h, _ => by simp [run] at h
end
end Go.Proofs.YtkocimfdgdegfaaGreatDoor.E

namespace Go.Proofs.YtkocimfdgdegfaaGreatDoor.E
open Go Go.RowKit Go.Lib
variable {P : Program} {C : Cfg} {call : CallF} {fl : Nat} {me : FuncId}

/-- the blocks below the floor are as they were -/
def HPre (fl : Nat) (hp hp' : List Blk) : Prop := fl ≤ hp'.length ∧ ∀ b, b < fl → hp'[b]? = hp[b]?

theorem HPre.refl {fl : Nat} {hp : List Blk} (h : fl ≤ hp.length) : HPre fl hp hp := ⟨h, fun _ _ => rfl⟩
theorem HPre.trans {fl : Nat} {a b c : List Blk} (h : HPre fl a b) (k : HPre fl b c) : HPre fl a c := ⟨k.1, fun i hi => (k.2 i hi).trans (h.2 i hi)⟩
theorem HPre.push {fl : Nat} {hp : List Blk} (h : fl ≤ hp.length) (x : List Blk) : HPre fl hp (hp ++ x) :=
  ⟨by simp; omega, fun b hb => by rw [List.getElem?_append_left (by omega)]⟩
theorem HPre.set {fl : Nat} {hp : List Blk} (h : fl ≤ hp.length) {b : Nat} (hb : fl ≤ b) (x : Blk) : HPre fl hp (setAt hp b x) := by
  rw [setAt_eq]
  exact ⟨by simpa using h, fun i hi => List.getElem?_set_ne (by omega)⟩

theorem HPre.setPush {fl : Nat} {hp : List Blk} (h : fl ≤ hp.length) {b : Nat} (hb : fl ≤ b) (x : Blk) (y : List Blk) : HPre fl hp (setAt hp b x ++ y) :=
  (HPre.set h hb x).trans (HPre.push (by rw [setAt_eq]; simpa using h) y)

def FlOK (call : CallF) (fl : Nat) : Prop := ∀ f args hp v hp', call f args hp = some (v, hp') → fl ≤ hp.length → HPre fl hp hp'

theorem newBlk_pre {st : St} {cs : List AV} {mk : Nat → AV} {r : Res} (h : newBlk st cs mk = some r) (hfl : fl ≤ st.hp.length) : HPre fl st.hp r.hp := by
  simp only [newBlk, Option.some.injEq] at h
  subst h
  exact .push hfl _

theorem appendE_pre {arrM : Bool} {st : St} {t t2 : TypeId} {s x : AV} {r : Res} (h : appendE C fl arrM st t t2 s x = some r) (hfl : fl ≤ st.hp.length) : HPre fl st.hp r.hp := by
  unfold appendE at h
  simp only [cond_eq_ite] at h
  repeat' (first | (cases h; done) | split at h)
  all_goals (cases h; first
    | exact HPre.refl hfl
    | exact HPre.push hfl _
    | (refine HPre.set hfl ?_ _; simp only [Bool.not_eq_true', Bool.not_eq_false', decide_eq_true_eq, decide_eq_false_iff_not, Bool.and_eq_true, Classical.not_not] at *; omega)
    | (refine HPre.setPush hfl ?_ _ _; simp only [Bool.not_eq_true', Bool.not_eq_false', decide_eq_true_eq, decide_eq_false_iff_not, Bool.and_eq_true, Classical.not_not] at *; omega))

theorem evOp_floor {o : Oper} {st : St} {r : Res} (hcall : FlOK call fl) (hkeep : CallKeeps C call) (h : evOp C call fl me o st = some r) (hfl : fl ≤ st.hp.length) : HPre fl st.hp r.hp := by
  have hF := evOp_facts h
  have hH : HeapOut r.fp st.hp r.hp := by obtain ⟨_, _, _, hH, _⟩ := evOp_local hkeep h; exact hH
  have same : r.fp = .z ∨ r.fp = .hr ∨ (∃ b, r.fp = .hb b) ∨ (∃ t, r.fp = .lr t) → HPre fl st.hp r.hp := fun hf => by
    have : r.hp = st.hp := by
      rcases hf with e | e | ⟨b, e⟩ | ⟨t, e⟩ <;> (rw [e] at hH; exact hH)
    rw [this]
    exact .refl hfl
  by_cases h0 : cls o = 0
  · exact same (.inl (hF.c0 h0))
  by_cases h1 : cls o = 1
  · exact same (hF.c1 h1)
  unfold evOp at h
  unfold cls at h0 h1
  cases hop : o.op <;> rw [hop] at h h0 h1 <;> dsimp only at h h0 h1 <;> first
    | (exact absurd rfl h0)
    | (exact absurd rfl h1)
    | skip
  case alloc e =>
    simp only [cond_eq_ite] at h
    repeat' (first | (cases h; done) | split at h)
    · cases h; exact .refl hfl
    · exact newBlk_pre h hfl
  case box e x =>
    simp only [cond_eq_ite] at h
    repeat' (first | (cases h; done) | split at h)
    · cases h; exact .refl hfl
    · exact newBlk_pre h hfl
  case store t a x =>
    split at h
    · unfold storeAt at h
      simp only [cond_eq_ite] at h
      repeat' (first | (cases h; done) | split at h)
      all_goals (cases h; first
        | exact HPre.refl hfl
        | (refine HPre.set hfl ?_ _; clear same hF hH hcall; simp only [decide_eq_true_eq, Bool.and_eq_true] at *; omega))
    · cases h
  case convert s d x =>
    split at h
    · unfold convE at h
      split at h
      · obtain ⟨a, _, rfl⟩ := ofO_eq h; exact .refl hfl
      · obtain ⟨a, _, rfl⟩ := ofO_eq h; exact .refl hfl
      · simp only [cond_eq_ite] at h
        split at h
        · split at h
          · exact newBlk_pre h hfl
          · obtain ⟨a, _, rfl⟩ := ofO_eq h; exact .refl hfl
        · cases h
      · simp only [cond_eq_ite] at h
        repeat' (first | (cases h; done) | split at h)
        simp only [Option.map_eq_some_iff] at h
        obtain ⟨_, _, rfl⟩ := h
        exact .refl hfl
      · cases h
    · cases h
  case buildSlice t len ps =>
    simp only [cond_eq_ite] at h
    repeat' (first | (cases h; done) | split at h)
    · exact newBlk_pre h hfl
    · obtain ⟨a, _, rfl⟩ := ofO_eq h; exact .refl hfl
  case makeSlice t l c =>
    simp only [cond_eq_ite] at h
    repeat' (first | (cases h; done) | split at h)
    exact newBlk_pre h hfl
  case call c =>
    split at h
    · cases h
    split at h
    · unfold builtinE at h
      split at h
      · obtain ⟨a, _, rfl⟩ := ofO_eq h; exact .refl hfl
      · obtain ⟨a, _, rfl⟩ := ofO_eq h; exact .refl hfl
      · exact appendE_pre h hfl
      · unfold copyE at h
        simp only [cond_eq_ite] at h
        repeat' (first | (cases h; done) | split at h)
        cases h
        (refine HPre.set hfl ?_ _; clear same hF hH hcall; simp only [decide_eq_true_eq, Bool.and_eq_true] at *; omega)
      · unfold clearE at h
        simp only [cond_eq_ite] at h
        repeat' (first | (cases h; done) | split at h)
        · cases h; exact .refl hfl
        · cases h; exact .refl hfl
        · cases h
          (refine HPre.set hfl ?_ _; clear same hF hH hcall; simp only [decide_eq_true_eq, Bool.and_eq_true] at *; omega)
      · obtain ⟨a, _, rfl⟩ := ofO_eq h; exact .refl hfl
      · obtain ⟨a, _, rfl⟩ := ofO_eq h; exact .refl hfl
      · cases h
    · split at h
      · unfold callE at h
        split at h
        · rename_i v hp hc
          cases h
          exact hcall _ _ _ _ _ hc hfl
        · cases h
      · cases h
    · cases h
  all_goals (cases h)

theorem evOne_floor {ops : List Oper} {o : Oper} {st st' : St} {f : Fp} (hcall : FlOK call fl) (hkeep : CallKeeps C call) (h : evOne C call fl me ops o st = some (st', f)) (hfl : fl ≤ st.hp.length) : HPre fl st.hp st'.hp := by
  unfold evOne at h
  split at h
  · split at h
    · rename_i r hr
      split at h
      · cases h; exact evOp_floor hcall hkeep hr hfl
      · cases h
    · cases h
  · split at h
    · cases h; exact .refl hfl
    · cases h
  · cases h

theorem runOps_floor {ops : List Oper} (hcall : FlOK call fl) (hkeep : CallKeeps C call) : ∀ (l : List Oper) (st st' : St) (fps : List Fp), runOps C call fl me ops l st = some (st', fps) → fl ≤ st.hp.length → HPre fl st.hp st'.hp
  | [], st, st', fps, h, hfl => by
    simp only [runOps, Option.some.injEq, Prod.mk.injEq] at h
    rw [← h.1]; exact .refl hfl
  | o :: l, st, st', fps, h, hfl => by
    simp only [runOps] at h
    split at h
    · rename_i st1 f h1
      split at h
      · rename_i st2 fs h2
        cases h
        have p1 := evOne_floor hcall hkeep h1 hfl
        exact p1.trans (runOps_floor hcall hkeep l st1 st' fs h2 p1.1)
      · cases h
    · cases h

theorem run_floor (hcall : FlOK call fl) (hkeep : CallKeeps C call) (k : Nat) : ∀ (c : Code) (st st' : St) (e : Ex), run C call fl me k c st = some (e, st') → fl ≤ st.hp.length → HPre fl st.hp st'.hp
  | .skip, st, st', e, h, hfl => by simp only [run, Option.some.injEq, Prod.mk.injEq] at h; rw [← h.2]; exact .refl hfl
  | .exit id, st, st', e, h, hfl => by simp only [run, Option.some.injEq, Prod.mk.injEq] at h; rw [← h.2]; exact .refl hfl
  | .ret, st, st', e, h, hfl => by simp only [run, Option.some.injEq, Prod.mk.injEq] at h; rw [← h.2]; exact .refl hfl
  | .region id ops draw, st, st', e, h, hfl => by
    simp only [run, cond_eq_ite] at h
    split at h
    · rename_i st1 fps h1
      split at h
      · cases h; exact runOps_floor hcall hkeep _ _ _ _ h1 hfl
      · cases h
    · cases h
  | .seq x y, st, st', e, h, hfl => by
    simp only [run] at h
    split at h
    · rename_i st1 h1
      have p1 := run_floor hcall hkeep k x st st1 .normal h1 hfl
      exact p1.trans (run_floor hcall hkeep k y st1 st' e h p1.1)
    · exact run_floor hcall hkeep k x st st' e h hfl
  | .cond c x y, st, st', e, h, hfl => by
    simp only [run] at h
    split at h
    · rename_i t _
      cases t with
      | true => exact run_floor hcall hkeep k x st st' e h hfl
      | false => exact run_floor hcall hkeep k y st st' e h hfl
    · cases h
  | .block id x, st, st', e, h, hfl => by
    simp only [run, cond_eq_ite] at h
    split at h
    · rename_i j st1 h1
      have p1 := run_floor hcall hkeep k x st st1 (.exit j) h1 hfl
      split at h
      · cases h; exact p1
      · cases h; exact p1
    · exact run_floor hcall hkeep k x st st' e h hfl
  | .loop x, st, st', e, h, hfl => by
    simp only [run] at h
    split at h
    case h_2 => cases h
    rename_i e' st2 h2
    cases h
    rw [cleanSt_hp]
    replace h := h2
    clear h2
    revert h
    generalize st2 = st'
    intro h
    generalize C.loop me (firstReg x) = m at h
    have key : ∀ (n : Nat) (st : St), evLoop (run C call fl me k x) (cleanSt m) n st = some (e, st') → fl ≤ st.hp.length → HPre fl st.hp st'.hp := by
      intro n
      induction n with
      | zero => intro st h _; cases h
      | succ n ih =>
        intro st h hfl
        simp only [evLoop] at h
        rw [← cleanSt_hp m st] at hfl ⊢
        split at h
        · rename_i st1 h1
          have p1 := run_floor hcall hkeep k x _ st1 .normal h1 hfl
          exact p1.trans (ih st1 h p1.1)
        · exact run_floor hcall hkeep k x _ st' e h hfl
    exact key k st h hfl
  | .rangeFunc .., st, st', e, h, _ => by simp [run] at h
  | .scope .., st, st', e, h, _ => by simp [run] at h
  | .label .., st, st', e, h, _ => by simp [run] at h
  | .goto .., st, st', e, h, _ => by simp [run] at h
  | .refuse .., st, st', e, h, _ => by simp [run] at h

theorem HPre.weak {fl n : Nat} {a b : List Blk} (h : HPre n a b) (hn : fl ≤ n) : HPre fl a b := ⟨Nat.le_trans hn h.1, fun i hi => h.2 i (Nat.lt_of_lt_of_le hi hn)⟩
theorem HPre.pre {a b : List Blk} (h : HPre a.length a b) : ∃ x, b = a ++ x := by
  refine ⟨b.drop a.length, ?_⟩
  have : b.take a.length = a := by
    apply List.ext_getElem?
    intro i
    by_cases hi : i < a.length
    · rw [List.getElem?_take_of_lt hi]; exact h.2 i hi
    · rw [List.getElem?_eq_none (by have := h.1; simp; omega), List.getElem?_eq_none (by omega)]
  conv => lhs; rw [← List.take_append_drop a.length b]
  rw [this]

theorem evCall_both : ∀ (k : Nat), (∀ fl, FlOK (evCall C k fl) fl) ∧ ∀ fl, CallKeeps C (evCall C k fl)
  | 0 => ⟨fun fl f args hp v hp' h _ => (by cases h), fun fl f args hp v hp' h _ => (by cases h)⟩
  | k + 1 => by
    obtain ⟨ih1, ih2⟩ := evCall_both k
    refine ⟨fun fl f args hp v hp' h hfl => ?_, fun fl f args hp v hp' h hkp => ?_⟩
    · unfold evCall at h
      split at h
      · simp only [Option.map_eq_some_iff] at h
        obtain ⟨_, _, h⟩ := h
        cases h
        exact .refl hfl
      · split at h
        · cases h
        · rename_i fi hfi
          dsimp only at h
          split at h
          · cases h
          · rename_i e st' _ hr
            split at h
            · cases h
            · rename_i rs hrs
              split at h
              · split at h
                · cases h; exact .refl hfl
                · cases h
              · rename_i hk
                rw [hk] at hr
                have p := run_floor (ih1 fl) (ih2 fl) k fi.body _ _ _ hr hfl
                simp only [cond_eq_ite] at h
                split at h
                · cases h
                · split at h
                  · cases h
                    have hlt : ∀ b, b < fl → (st'.hp.take hp.length)[b]? = st'.hp[b]? := fun b hb => by rw [List.getElem?_take_of_lt (by omega)]
                    exact ⟨by have := p.1; simp; omega, fun b hb => (hlt b hb).trans (p.2 b hb)⟩
                  · cases h
              · rename_i hk
                rw [hk] at hr
                cases h
                exact run_floor (ih1 fl) (ih2 fl) k fi.body _ _ _ hr hfl
              · rename_i hk
                rw [hk] at hr
                cases h
                exact (run_floor (ih1 _) (ih2 _) k fi.body _ _ _ hr (Nat.le_refl _)).weak hfl
          · cases h
    · unfold evCall at h
      split at h
      · simp only [Option.map_eq_some_iff] at h
        obtain ⟨_, _, h⟩ := h
        cases h
        exact ⟨[], by simp⟩
      · rename_i he
        split at h
        · cases h
        · rename_i fi hfi
          dsimp only at h
          split at h
          · cases h
          · rename_i e st' _ hr
            split at h
            · cases h
            · rename_i rs hrs
              split at h
              · split at h
                · cases h; exact ⟨[], by simp⟩
                · cases h
              · rename_i hk
                unfold keepsB at hkp
                rw [he, hk] at hkp
                cases hkp
              · rename_i hk
                unfold keepsB at hkp
                rw [he, hk] at hkp
                cases hkp
              · rename_i hk
                rw [hk] at hr
                cases h
                exact (run_floor (ih1 _) (ih2 _) k fi.body _ _ _ hr (Nat.le_refl _)).pre
          · cases h
theorem evCall_floor (k fl : Nat) : FlOK (evCall C k fl) fl := (evCall_both k).1 fl
theorem evCall_keeps (k fl : Nat) : CallKeeps C (evCall C k fl) := (evCall_both k).2 fl
end Go.Proofs.YtkocimfdgdegfaaGreatDoor.E
