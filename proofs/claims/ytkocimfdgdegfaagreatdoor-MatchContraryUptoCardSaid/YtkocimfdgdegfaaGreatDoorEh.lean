/- Ways through a code without fuel; slices that are values; what of a heap stays. -/
import Derived.Test.YtkocimfdgdegfaaGreatDoorEg
set_option linter.unusedSimpArgs false
set_option linter.unusedVariables false
/- What the printed ways lean on: a call by the values that its code comes to, and what reads and writes of a heap come to. -/
namespace Go.Proofs.YtkocimfdgdegfaaGreatDoor.E
open Go Go.RowKit Go.Lib
variable {P : Program} {C : Cfg} {call : CallF} {fl : Nat} {me : FuncId}

/-- the body of a function's loop -/
def bodyAt (C : Cfg) (f : FuncId) (r : Nat) : Code := match C.code f with
  | some fi => (loopAt r fi.body).getD .skip
  | none => .skip

def flAt (C : Cfg) (f : FuncId) (fl : Nat) (hp : List Blk) : Nat := match C.kind f with | .pure => hp.length | .new => hp.length | _ => fl

/-- a call's code, along one way: the results, the heap, what is asked -/
def runW (C : Cfg) (k fl : Nat) (π : List (Nat × Nat × Ora)) (f : FuncId) (args : List AV) (hp : List Blk) : Option (List AV × List Blk × List Prop) :=
  match C.ext f with
  | some _ => none
  | none => match C.code f with
    | none => none
    | some fi => match runP C (evCall C k fl) fl f k π fi.body ⟨args.map .v ++ List.replicate (fi.ntmps - args.length) .sk, hp⟩ with
      | some (.exit _, _) => none
      | some (_, st, φs) => match resultsE C st fi.results with
        | none => none
        | some rs => some (rs, st.hp, φs)
      | none => none

def tailE (C : Cfg) (f : FuncId) (hp hpF : List Blk) (rs : List AV) : Option (AV × List Blk) := match C.kind f with
  | .pure => match shutV hpF hp.length 100000 (one rs) with
    | some v => some (v, hp)
    | none => none
  | .mut => bif !cloH hp.length (hpF.take hp.length) then none else
    match shutV hpF hp.length 100000 (one rs) with
    | some v => some (v, hpF.take hp.length)
    | none => none
  | .keep => some (one rs, hpF)
  | .new => some (one rs, hpF)

theorem evW {k fl fl' : Nat} (π : List (Nat × Nat × Ora)) {f : FuncId} {args : List AV} {hp hpF : List Blk} {rs : List AV} {r : AV × List Blk} {φs : List Prop} (hl : flAt C f fl hp = fl')
    (h : runW C k fl' π f args hp = some (rs, hpF, φs)) (hφ : allP φs) (ht : tailE C f hp hpF rs = some r) : evCall C (k + 1) fl f args hp = some r := by
  unfold runW at h
  unfold evCall
  split at h
  · cases h
  · rename_i he
    rw [he]
    dsimp only
    split at h
    · cases h
    · rename_i fi hfi
      rw [hfi]
      dsimp only
      split at h
      · cases h
      · rename_i e st ψ hne hr
        split at h
        · cases h
        · rename_i rs' hrs
          cases h
          have hR := runP_ok _ _ _ _ _ hr hφ
          unfold flAt at hl
          unfold tailE at ht
          cases hk : C.kind f <;> simp only [hk] at hl ht ⊢ <;> subst hl <;> rw [hR] <;> cases e <;> first | exact absurd rfl (hne _) | (simp only [hrs]; exact ht)
      · cases h

theorem tail_keep {f : FuncId} {hp hpF : List Blk} {rs : List AV} (hk : C.kind f = .keep) : tailE C f hp hpF rs = some (one rs, hpF) := by unfold tailE; rw [hk]
theorem tail_new {f : FuncId} {hp hpF : List Blk} {rs : List AV} (hk : C.kind f = .new) : tailE C f hp hpF rs = some (one rs, hpF) := by unfold tailE; rw [hk]
theorem tail_pure {f : FuncId} {hp hpF : List Blk} {rs : List AV} {v : AV} (hk : C.kind f = .pure) (hs : shutV hpF hp.length 100000 (one rs) = some v) : tailE C f hp hpF rs = some (v, hp) := by unfold tailE; rw [hk]; simp only [hs]
theorem tail_mut {f : FuncId} {hp hpF hp' : List Blk} {rs : List AV} {v : AV} (hk : C.kind f = .mut) (ht : hpF.take hp.length = hp') (hc : cloH hp.length hp' = true) (hs : shutV hpF hp.length 100000 (one rs) = some v) : tailE C f hp hpF rs = some (v, hp') := by
  unfold tailE; rw [hk]; subst ht; simp only [hs, hc, Bool.not_true, cond_false rfl]

/-! ### the heap -/
theorem blk_set {hp : List Blk} {b : Nat} {cs : List AV} (h : b < hp.length) : blkCells (setAt hp b (.cells cs)) b = some cs := by
  unfold blkCells; rw [setAt_eq, getAt_eq, List.getElem?_set_self h]
theorem blk_set_ne {hp : List Blk} {b c : Nat} {x : Blk} {cs : List AV} (hn : c ≠ b) (h : blkCells hp b = some cs) : blkCells (setAt hp c x) b = some cs := by
  unfold blkCells at *; rw [setAt_eq, getAt_eq, List.getElem?_set_ne hn, ← getAt_eq]; exact h
theorem blk_last {hp : List Blk} {cs : List AV} {rest : List Blk} : blkCells (hp ++ .cells cs :: rest) hp.length = some cs := by
  unfold blkCells; rw [getAt_eq, List.getElem?_append_right (Nat.le_refl _), Nat.sub_self]; rfl
theorem getAt_app {hp : List Blk} {b : Nat} {x : Blk} {rest : List Blk} (h : getAt hp b = some x) : getAt (hp ++ rest) b = some x := by
  rw [getAt_eq] at *; obtain ⟨h1, h2⟩ := List.getElem?_eq_some_iff.1 h; rw [List.getElem?_append_left h1]; exact h
theorem blk_app {hp : List Blk} {b : Nat} {cs : List AV} {rest : List Blk} (h : blkCells hp b = some cs) : blkCells (hp ++ rest) b = some cs := by
  unfold blkCells at *
  split at h
  · rename_i c hc; cases h; rw [getAt_app hc]
  · cases h
theorem blk_lt {hp : List Blk} {b : Nat} {cs : List AV} (h : blkCells hp b = some cs) : b < hp.length := by
  unfold blkCells at h
  split at h
  · rename_i c hc; rw [getAt_eq] at hc; exact (List.getElem?_eq_some_iff.1 hc).1
  · cases h
theorem setAt_length {α : Type} (l : List α) (i : Nat) (x : α) : (setAt l i x).length = l.length := by rw [setAt_eq]; simp
theorem setAt_setAt {α : Type} (l : List α) (i : Nat) (x y : α) : setAt (setAt l i x) i y = setAt l i y := by simp only [setAt_eq]; simp
theorem setAt_same {hp : List Blk} {b : Nat} {cs : List AV} (h : blkCells hp b = some cs) : setAt hp b (.cells cs) = hp := by
  unfold blkCells at h
  split at h
  · rename_i c hc
    cases h
    rw [getAt_eq] at hc
    rw [setAt_eq]
    obtain ⟨h1, h2⟩ := List.getElem?_eq_some_iff.1 hc
    rw [← h2]; simp
  · cases h
theorem setAt_app {hp : List Blk} {b : Nat} {x : Blk} {rest : List Blk} (h : b < hp.length) : setAt (hp ++ rest) b x = setAt hp b x ++ rest := by
  simp only [setAt_eq]; rw [List.set_append_left _ _ h]
theorem setAt_last {hp : List Blk} {x y : Blk} {rest : List Blk} : setAt (hp ++ x :: rest) hp.length y = hp ++ y :: rest := by
  simp only [setAt_eq]; rw [List.set_append_right _ _ (Nat.le_refl _), Nat.sub_self]; rfl
theorem take_set {hp : List Blk} {b : Nat} {x : Blk} : (setAt hp b x).take hp.length = setAt hp b x := by
  rw [List.take_of_length_le (by rw [setAt_length]; exact Nat.le_refl _)]

def ldC (C : Cfg) (t : TypeId) (cs : List AV) (off : Nat) : Option AV := match C.ty t with
  | some ti => part ti cs off
  | none => none
theorem load_ok {t : TypeId} {b off : Nat} {hp : List Blk} {cs : List AV} {x : AV} (h : blkCells hp b = some cs) (hx : ldC C t cs off = some x) : ∀ ts, loadAt C ⟨ts, hp⟩ t (.v (.ptr b off)) = some ⟨.v x, ts, hp, .hb b⟩ := by
  intro ts; unfold loadAt; unfold ldC at hx
  split at hx
  · rename_i ti ht; simp only [ht, h, hx, Option.map_some]
  · cases hx
def stC (C : Cfg) (t : TypeId) (cs : List AV) (off : Nat) (x : AV) : Option (List AV) := match C.ty t with
  | some ti => bif x.cells.length == ti.size && x.noTup && decide (off + ti.size ≤ cs.length) then some (splice cs off x.cells) else none
  | none => none
theorem store_ok {t : TypeId} {b off fl : Nat} {hp hp' : List Blk} {cs cs' : List AV} {x : AV} (h : blkCells hp b = some cs) (hx : stC C t cs off x = some cs') (hf : fl ≤ b)
    (hh : setAt hp b (.cells cs') = hp') : ∀ ts, storeAt C fl ⟨ts, hp⟩ t (.v (.ptr b off)) x = some ⟨.sk, ts, hp', .hw⟩ := by
  intro ts; unfold storeAt; unfold stC at hx; subst hh
  split at hx
  · rename_i ti ht
    cases hc : (x.cells.length == ti.size && x.noTup && decide (off + ti.size ≤ cs.length)) with
    | false => rw [hc] at hx; cases hx
    | true =>
      rw [hc, cond_true rfl] at hx
      cases hx
      simp only [Bool.and_eq_true] at hc
      simp only [ht, h, hc.1.1, hc.1.2, hc.2, decide_eq_true hf, Bool.not_true, Bool.or_false, Bool.and_true, cond_false rfl, cond_true rfl]
  · cases hx

theorem wrap_i64 {n : Int} (h : -9223372036854775808 ≤ n) (h' : n ≤ 9223372036854775807) : IntKind.wrap .i64 n = n := by
  unfold IntKind.wrap; simp [IntKind.bits, IntKind.signed]; omega
theorem wrap_u64 {n : Int} (h : 0 ≤ n) (h' : n < 18446744073709551616) : IntKind.wrap .u64 n = n := by
  unfold IntKind.wrap; simp [IntKind.bits, IntKind.signed]; omega
theorem wrap_u8 {n : Int} (h : 0 ≤ n) (h' : n < 256) : IntKind.wrap .u8 n = n := by
  unfold IntKind.wrap; simp [IntKind.bits, IntKind.signed]; omega
theorem wrap_i32 {n : Int} (h : -2147483648 ≤ n) (h' : n ≤ 2147483647) : IntKind.wrap .i32 n = n := by
  unfold IntKind.wrap; simp [IntKind.bits, IntKind.signed]; omega

def isStr (C : Cfg) (t : TypeId) : Bool := match C.ty t with
  | some ⟨.string, _, _, _, _⟩ => true
  | _ => false
theorem isStr_ty {t : TypeId} (h : isStr C t = true) : ∃ a b c d, C.ty t = some ⟨.string, a, b, c, d⟩ := by
  unfold isStr at h
  split at h
  · rename_i a b c d e; exact ⟨a, b, c, d, e⟩
  · cases h
/-- a byte of a text -/
theorem index_str {t : TypeId} {s : List UInt8} {n : Int} {c : UInt8} (ht : isStr C t = true) (h0 : 0 ≤ n) (h : s[n.toNat]? = some c) : indexE C t (.str s) n = some (.int .u8 c.toNat) := by
  obtain ⟨a1, a2, a3, a4, ht⟩ := isStr_ty ht
  unfold indexE
  rw [decide_eq_false (by omega), cond_false rfl]
  simp only [ht, getAt_eq, h, Option.map_some]
/-- a piece of a text -/
theorem slice_str {t : TypeId} {s : List UInt8} {k k' : IntKind} {n m : Int} (ht : isStr C t = true) (h0 : 0 ≤ n) (h1 : n ≤ m) (h2 : m ≤ s.length) (st : St) :
    sliceE C st t (.v (.str s)) (some (.int k n)) (some (.int k' m)) none = some (.str ((s.drop n.toNat).take (m.toNat - n.toNat))) := by
  obtain ⟨a1, a2, a3, a4, ht⟩ := isStr_ty ht
  unfold sliceE
  simp only [ht, bnd]
  rw [decide_eq_false (by omega), cond_false rfl, decide_eq_false (by omega), cond_false rfl]
  dsimp only
  rw [decide_eq_true (by omega : n.toNat ≤ m.toNat), decide_eq_true (by omega : m.toNat ≤ s.length)]
  rfl
theorem slice_str_to {t : TypeId} {s : List UInt8} {k' : IntKind} {m : Int} (ht : isStr C t = true) (h1 : 0 ≤ m) (h2 : m ≤ s.length) (st : St) :
    sliceE C st t (.v (.str s)) none (some (.int k' m)) none = some (.str (s.take m.toNat)) := by
  obtain ⟨a1, a2, a3, a4, ht⟩ := isStr_ty ht
  unfold sliceE
  simp only [ht, bnd]
  rw [decide_eq_false (by omega), cond_false rfl]
  dsimp only
  rw [decide_eq_true (by omega : 0 ≤ m.toNat), decide_eq_true (by omega : m.toNat ≤ s.length)]
  rfl
theorem slice_str_from {t : TypeId} {s : List UInt8} {k : IntKind} {n : Int} (ht : isStr C t = true) (h0 : 0 ≤ n) (h2 : n ≤ s.length) (st : St) :
    sliceE C st t (.v (.str s)) (some (.int k n)) none none = some (.str (s.drop n.toNat)) := by
  obtain ⟨a1, a2, a3, a4, ht⟩ := isStr_ty ht
  unfold sliceE
  simp only [ht, bnd]
  rw [decide_eq_false (by omega), cond_false rfl]
  dsimp only
  rw [decide_eq_true (by omega : n.toNat ≤ s.length), decide_eq_true (by omega : s.length ≤ s.length)]
  simp only [Bool.and_true, cond_true rfl]
  rw [List.take_of_length_le (by simp)]
theorem strOp_add {x y : List UInt8} (h : x.length + y.length ≤ 9223372036854775807) : strOp .add x y = some (.str (x ++ y)) := by
  unfold strOp; rw [decide_eq_true h, cond_true rfl]

/-! ### what a heap hangs on -/
theorem cloH_set {n : Nat} {hp : List Blk} {b : Nat} {cs : List AV} (h : cloH n hp = true) (hc : cs.all (clo n 100000) = true) : cloH n (setAt hp b (.cells cs)) = true := by
  unfold cloH at *
  rw [List.all_eq_true] at *
  intro x hx
  rw [setAt_eq] at hx
  rcases List.mem_or_eq_of_mem_set hx with hx | hx
  · exact h x hx
  · subst hx; exact List.all_eq_true.2 hc
end Go.Proofs.YtkocimfdgdegfaaGreatDoor.E

/- The evaluator without its fuel: a call, and a loop, come to something if they do with some fuel. -/
namespace Go.Proofs.YtkocimfdgdegfaaGreatDoor.E
open Go Go.RowKit Go.Lib
variable {P : Program} {C : Cfg} {fl : Nat} {me : FuncId}

def LeC (c d : CallF) : Prop := ∀ f a h r, c f a h = some r → d f a h = some r
theorem LeC.refl (c : CallF) : LeC c c := fun _ _ _ _ h => h

theorem callE_mono {c d : CallF} (h : LeC c d) {st : St} {f : FuncId} {args : List AV} {r : Res} (e : callE C c st f args = some r) : callE C d st f args = some r := by
  unfold callE at *
  split at e
  · rename_i v hp hv; rw [h _ _ _ _ hv]; exact e
  · cases e

theorem evOp_mono {c d : CallF} (h : LeC c d) {o : Oper} {st : St} {r : Res} (e : evOp C c fl me o st = some r) : evOp C d fl me o st = some r := by
  obtain ⟨dst, op, guard⟩ := o
  cases op <;> try exact e
  rename_i cl
  unfold evOp at *
  dsimp only at *
  split at e
  · cases e
  · rename_i args ha
    split at e
    · exact e
    · rename_i f hf
      split at e
      · exact callE_mono h e
      · cases e
    · cases e

theorem evOne_mono {c d : CallF} (h : LeC c d) {ops : List Oper} {o : Oper} {st : St} {r : St × Fp} (e : evOne C c fl me ops o st = some r) : evOne C d fl me ops o st = some r := by
  unfold evOne at *
  split at e
  · split at e
    · rename_i q hq
      rw [evOp_mono h hq]; exact e
    · cases e
  · exact e
  · cases e

theorem runOps_mono {c d : CallF} (h : LeC c d) {ops : List Oper} : ∀ (l : List Oper) (st : St) (r : St × List Fp), runOps C c fl me ops l st = some r → runOps C d fl me ops l st = some r
  | [], st, r, e => e
  | o :: l, st, r, e => by
    unfold runOps at *
    split at e
    · rename_i st1 f h1
      rw [evOne_mono h h1]
      split at e
      · rename_i st' fps h2
        simp only [runOps_mono h l st1 _ h2]; exact e
      · cases e
    · cases e

theorem evLoop_mono {b b' : St → Option (Ex × St)} {cl : St → St} (h : ∀ st r, b st = some r → b' st = some r) : ∀ (k k' : Nat) (st : St) (r : Ex × St), k ≤ k' → evLoop b cl k st = some r → evLoop b' cl k' st = some r
  | 0, _, _, _, _, e => by cases e
  | k + 1, 0, _, _, hk, _ => by omega
  | k + 1, k' + 1, st, r, hk, e => by
    unfold evLoop at *
    split at e
    · rename_i st' h1
      rw [h _ _ h1]; exact evLoop_mono h k k' st' r (by omega) e
    · rename_i hne
      have := h _ _ e
      rw [this]
      obtain ⟨x, s⟩ := r
      cases x
      · exact absurd e (hne s)
      · rfl
      · rfl

theorem evLoopC_mono {b b' : St → Option (Ex × St)} {cl : St → St} (h : ∀ st r, b st = some r → b' st = some r) : ∀ (k k' : Nat) (st : St) (r : Ex × St), k ≤ k' → evLoopC b cl k st = some r → evLoopC b' cl k' st = some r
  | 0, _, _, _, _, e => by cases e
  | k + 1, 0, _, _, hk, _ => by omega
  | k + 1, k' + 1, st, r, hk, e => by
    unfold evLoopC at *
    split at e
    · rename_i st' h1
      rw [h _ _ h1]; exact evLoopC_mono h k k' _ r (by omega) e
    · rename_i hne
      have := h _ _ e
      rw [this]
      obtain ⟨x, s⟩ := r
      cases x
      · exact absurd e (hne s)
      · rfl
      · rfl

theorem run_mono {c d : CallF} (h : LeC c d) {k k' : Nat} (hk : k ≤ k') : ∀ (x : Code) (st : St) (r : Ex × St), run C c fl me k x st = some r → run C d fl me k' x st = some r
  | .skip, st, r, e => e
  | .exit id, st, r, e => e
  | .ret, st, r, e => e
  | .region id ops draw, st, r, e => by
    simp only [run] at *
    split at e
    · rename_i st' fps h1
      rw [runOps_mono h _ _ _ h1]; exact e
    · cases e
  | .seq x y, st, r, e => by
    simp only [run] at *
    split at e
    · rename_i st' h1
      rw [run_mono h hk x st _ h1]; exact run_mono h hk y st' r e
    · rename_i hne
      rw [run_mono h hk x st _ e]
      obtain ⟨q, s⟩ := r
      cases q
      · exact absurd e (hne s)
      · rfl
      · rfl
  | .cond t x y, st, r, e => by
    simp only [run] at *
    split at e
    · rename_i b hb
      cases b
      · exact run_mono h hk y st r e
      · exact run_mono h hk x st r e
    · cases e
  | .block id x, st, r, e => by
    simp only [run] at *
    split at e
    · rename_i j st' h1
      rw [run_mono h hk x st _ h1]; exact e
    · rename_i hne
      rw [run_mono h hk x st _ e]
      obtain ⟨q, s⟩ := r
      cases q
      · rfl
      · exact absurd e (hne _ s)
      · rfl
  | .loop x, st, r, e => by
    simp only [run] at *
    split at e
    · rename_i q st' h1
      rw [evLoop_mono (fun st r => run_mono h hk x st r) _ _ _ _ hk h1]; exact e
    · cases e
  | .rangeFunc .., st, r, e => by simp [run] at e
  | .scope .., st, r, e => by simp [run] at e
  | .label .., st, r, e => by simp [run] at e
  | .goto .., st, r, e => by simp [run] at e
  | .refuse .., st, r, e => by simp [run] at e

theorem evCall_succ : ∀ (k : Nat) (fl : Nat), LeC (evCall C k fl) (evCall C (k + 1) fl)
  | 0, fl => fun f a h r e => by cases e
  | k + 1, fl => fun f args hp r e => by
    unfold evCall at e ⊢
    split at e
    · exact e
    · rename_i he
      split at e
      · cases e
      · rename_i fi hfi
        dsimp only at *
        split at e
        · cases e
        · rename_i e' st hne hr
          have h2 := run_mono (evCall_succ k _) (Nat.le_succ k) _ _ _ hr
          rw [h2]
          cases e' with
          | exit j => exact absurd rfl (hne j)
          | normal => exact e
          | ret => exact e
        · cases e

theorem evCall_mono {k k' fl : Nat} (h : k ≤ k') : LeC (evCall C k fl) (evCall C k' fl) := by
  induction h with
  | refl => exact LeC.refl _
  | step _ ih => exact fun f a h r e => evCall_succ _ _ _ _ _ _ (ih _ _ _ _ e)

open Classical in
/-- a call, with as much fuel as it needs -/
noncomputable def evI (C : Cfg) (fl : Nat) : CallF := fun f a h => if H : ∃ k r, evCall C k fl f a h = some r then evCall C H.choose fl f a h else none

theorem evI_of {k fl : Nat} {f : FuncId} {a : List AV} {h : List Blk} {r : AV × List Blk} (e : evCall C k fl f a h = some r) : evI C fl f a h = some r := by
  have H : ∃ k r, evCall C k fl f a h = some r := ⟨k, r, e⟩
  unfold evI
  rw [dif_pos H]
  obtain ⟨r', h'⟩ := H.choose_spec
  rcases Nat.le_total k H.choose with hh | hh
  · exact evCall_mono hh _ _ _ _ e
  · have := evCall_mono hh _ _ _ _ h'
    rw [e] at this; rw [h']; exact this.symm
theorem evI_to {fl : Nat} {f : FuncId} {a : List AV} {h : List Blk} {r : AV × List Blk} (e : evI C fl f a h = some r) : ∃ k, ∀ k', k ≤ k' → evCall C k' fl f a h = some r := by
  unfold evI at e
  split at e
  · rename_i H
    exact ⟨H.choose, fun k' hk => evCall_mono hk _ _ _ _ e⟩
  · cases e

/-! what a code comes to hangs on finitely much fuel -/
theorem evOp_lim {o : Oper} {st : St} {r : Res} (e : evOp C (evI C fl) fl me o st = some r) : ∃ k, ∀ k', k ≤ k' → evOp C (evCall C k' fl) fl me o st = some r := by
  obtain ⟨dst, op, guard⟩ := o
  cases op <;> try exact ⟨0, fun _ _ => e⟩
  rename_i cl
  unfold evOp at *
  dsimp only at *
  split at e
  · cases e
  · rename_i args ha
    split at e
    · exact ⟨0, fun _ _ => e⟩
    · rename_i f hf
      split at e
      · rename_i g fi ca hg
        unfold callE at e ⊢
        split at e
        · rename_i v hp hv
          obtain ⟨k, hk⟩ := evI_to hv
          exact ⟨k, fun k' h' => by rw [hk k' h']; exact e⟩
        · cases e
      · cases e
    · cases e

theorem evOne_lim {ops : List Oper} {o : Oper} {st : St} {r : St × Fp} (e : evOne C (evI C fl) fl me ops o st = some r) : ∃ k, ∀ k', k ≤ k' → evOne C (evCall C k' fl) fl me ops o st = some r := by
  unfold evOne at *
  split at e
  · split at e
    · rename_i q hq
      obtain ⟨k, hk⟩ := evOp_lim hq
      exact ⟨k, fun k' h' => by rw [hk k' h']; exact e⟩
    · cases e
  · exact ⟨0, fun _ _ => e⟩
  · cases e

theorem runOps_lim {ops : List Oper} : ∀ (l : List Oper) (st : St) (r : St × List Fp), runOps C (evI C fl) fl me ops l st = some r → ∃ k, ∀ k', k ≤ k' → runOps C (evCall C k' fl) fl me ops l st = some r
  | [], st, r, e => ⟨0, fun _ _ => e⟩
  | o :: l, st, r, e => by
    unfold runOps at *
    split at e
    · rename_i st1 f h1
      obtain ⟨k, hk⟩ := evOne_lim h1
      split at e
      · rename_i st' fps h2
        obtain ⟨k2, hk2⟩ := runOps_lim l st1 _ h2
        exact ⟨max k k2, fun k' h' => by rw [hk k' (by omega)]; simp only [hk2 k' (by omega)]; exact e⟩
      · cases e
    · cases e

theorem evLoop_lim {b : St → Option (Ex × St)} {b' : Nat → St → Option (Ex × St)} {cl : St → St} (h : ∀ st r, b st = some r → ∃ k, ∀ k', k ≤ k' → b' k' st = some r) : ∀ (n : Nat) (st : St) (r : Ex × St), evLoop b cl n st = some r → ∃ k, ∀ k', k ≤ k' → evLoop (b' k') cl n st = some r
  | 0, _, _, e => by cases e
  | n + 1, st, r, e => by
    unfold evLoop at *
    split at e
    · rename_i st' h1
      obtain ⟨k, hk⟩ := h _ _ h1
      obtain ⟨k2, hk2⟩ := evLoop_lim h n st' r e
      exact ⟨max k k2, fun k' h' => by rw [hk k' (by omega)]; exact hk2 k' (by omega)⟩
    · rename_i hne
      obtain ⟨k, hk⟩ := h _ _ e
      refine ⟨k, fun k' h' => ?_⟩
      rw [hk k' h']
      obtain ⟨x, s⟩ := r
      cases x
      · exact absurd e (hne s)
      · rfl
      · rfl

theorem run_lim {n : Nat} : ∀ (x : Code) (st : St) (r : Ex × St), run C (evI C fl) fl me n x st = some r → ∃ k, ∀ k', k ≤ k' → run C (evCall C k' fl) fl me n x st = some r
  | .skip, st, r, e => ⟨0, fun _ _ => e⟩
  | .exit id, st, r, e => ⟨0, fun _ _ => e⟩
  | .ret, st, r, e => ⟨0, fun _ _ => e⟩
  | .region id ops draw, st, r, e => by
    simp only [run] at *
    split at e
    · rename_i st' fps h1
      obtain ⟨k, hk⟩ := runOps_lim _ _ _ h1
      exact ⟨k, fun k' h' => by rw [hk k' h']; exact e⟩
    · cases e
  | .seq x y, st, r, e => by
    simp only [run] at *
    split at e
    · rename_i st' h1
      obtain ⟨k, hk⟩ := run_lim x st _ h1
      obtain ⟨k2, hk2⟩ := run_lim y st' r e
      exact ⟨max k k2, fun k' h' => by rw [hk k' (by omega)]; exact hk2 k' (by omega)⟩
    · rename_i hne
      obtain ⟨k, hk⟩ := run_lim x st _ e
      refine ⟨k, fun k' h' => ?_⟩
      rw [hk k' h']
      obtain ⟨q, s⟩ := r
      cases q
      · exact absurd e (hne s)
      · rfl
      · rfl
  | .cond t x y, st, r, e => by
    simp only [run] at *
    split at e
    · rename_i b hb
      cases b
      · exact run_lim y st r e
      · exact run_lim x st r e
    · cases e
  | .block id x, st, r, e => by
    simp only [run] at *
    split at e
    · rename_i j st' h1
      obtain ⟨k, hk⟩ := run_lim x st _ h1
      exact ⟨k, fun k' h' => by rw [hk k' h']; exact e⟩
    · rename_i hne
      obtain ⟨k, hk⟩ := run_lim x st _ e
      refine ⟨k, fun k' h' => ?_⟩
      rw [hk k' h']
      obtain ⟨q, s⟩ := r
      cases q
      · rfl
      · exact absurd e (hne _ s)
      · rfl
  | .loop x, st, r, e => by
    simp only [run] at *
    split at e
    · rename_i q st' h1
      obtain ⟨k, hk⟩ := evLoop_lim (b' := fun k' => run C (evCall C k' fl) fl me n x) (fun st r => run_lim x st r) _ _ _ h1
      exact ⟨k, fun k' h' => by rw [hk k' h']; exact e⟩
    · cases e
  | .rangeFunc .., st, r, e => by simp [run] at e
  | .scope .., st, r, e => by simp [run] at e
  | .label .., st, r, e => by simp [run] at e
  | .goto .., st, r, e => by simp [run] at e
  | .refuse .., st, r, e => by simp [run] at e

/-- a code, with as much fuel as it needs -/
def RunK (C : Cfg) (fl : Nat) (me : FuncId) (x : Code) (st : St) (e : Ex) (st' : St) : Prop := ∃ n, run C (evI C fl) fl me n x st = some (e, st')
/-- a loop out of a clean head, with as much fuel as it needs -/
def LoopI (C : Cfg) (fl : Nat) (me : FuncId) (b : Code) (r : Nat) (st : St) (e : Ex) (st' : St) : Prop := ∃ n, loopN C (evI C fl) fl me n b r n st = some (e, st')

/-! one way through a code -/
noncomputable def runQ (C : Cfg) (fl : Nat) (me : FuncId) (π : List (Nat × Nat × Ora)) : Code → St → Option (Ex × St × List Prop)
  | .skip, st => some (.normal, st, [])
  | .region id ops draw, st => match runOpsP C (evI C fl) fl me ops.toList π id 0 ops.toList st with
    | some (st', fps, φs) => bif !draw || noClash fps (C.pairs me id) then some (.normal, st', φs) else none
    | none => none
  | .seq a b, st => match runQ C fl me π a st with
    | some (.normal, st', φs) => match runQ C fl me π b st' with
      | some (e, st'', ψs) => some (e, st'', φs ++ ψs)
      | none => none
    | r => r
  | .cond c a b, st => match opv C st.tmps c with
    | some (.bool t) => bif t then runQ C fl me π a st else runQ C fl me π b st
    | _ => none
  | .block id b, st => match runQ C fl me π b st with
    | some (.exit j, st', φs) => bif Nat.beq j id then some (.normal, st', φs) else some (.exit j, st', φs)
    | r => r
  | .loop b, st => match find2 (firstReg b) 1000000 π with
    | some (.loop e st') => some (e, st', [LoopI C fl me b (firstReg b) (cleanSt (C.loop me (firstReg b)) st) e st'])
    | _ => none
  | .exit id, st => some (.exit id, st, [])
  | .ret, st => some (.ret, st, [])
  | _, _ => none

theorem runQ_ok {π : List (Nat × Nat × Ora)} : ∀ (c : Code) (st st' : St) (e : Ex) (φs : List Prop), runQ C fl me π c st = some (e, st', φs) → allP φs → RunK C fl me c st e st'
  | .skip, st, st', e, φs, h, _ => by simp only [runQ, Option.some.injEq, Prod.mk.injEq] at h; obtain ⟨rfl, rfl, _⟩ := h; exact ⟨0, rfl⟩
  | .exit id, st, st', e, φs, h, _ => by simp only [runQ, Option.some.injEq, Prod.mk.injEq] at h; obtain ⟨rfl, rfl, _⟩ := h; exact ⟨0, rfl⟩
  | .ret, st, st', e, φs, h, _ => by simp only [runQ, Option.some.injEq, Prod.mk.injEq] at h; obtain ⟨rfl, rfl, _⟩ := h; exact ⟨0, rfl⟩
  | .region id ops draw, st, st', e, φs, h, hφ => by
    simp only [runQ] at h
    split at h
    · rename_i st1 fps ψ h1
      cases hb : (!draw || noClash fps (C.pairs me id)) with
      | false => rw [hb] at h; cases h
      | true =>
        rw [hb, cond_true rfl] at h
        cases h
        exact ⟨0, by simp only [run, runOpsP_ok _ 0 st st' fps φs h1 hφ, hb, cond_true rfl]⟩
    · cases h
  | .seq x y, st, st', e, φs, h, hφ => by
    simp only [runQ] at h
    split at h
    · rename_i st1 ψ h1
      split at h
      · rename_i e2 st2 χ h2
        cases h
        obtain ⟨g1, g2⟩ := allP_append.1 hφ
        obtain ⟨n, hn⟩ := runQ_ok x st st1 .normal ψ h1 g1
        obtain ⟨m, hm⟩ := runQ_ok y st1 st' e χ h2 g2
        refine ⟨max n m, ?_⟩
        simp only [run, run_mono (LeC.refl _) (Nat.le_max_left n m) x st _ hn]
        exact run_mono (LeC.refl _) (Nat.le_max_right n m) y st1 _ hm
      · cases h
    · rename_i hne
      obtain ⟨n, hn⟩ := runQ_ok x st st' e φs h hφ
      refine ⟨n, ?_⟩
      simp only [run, hn]
      cases e with
      | normal => exact absurd h (hne st' φs)
      | exit id => rfl
      | ret => rfl
  | .cond c x y, st, st', e, φs, h, hφ => by
    simp only [runQ] at h
    split at h
    · rename_i t ht
      cases t with
      | true => obtain ⟨n, hn⟩ := runQ_ok x st st' e φs h hφ; exact ⟨n, by simp only [run, ht]; exact hn⟩
      | false => obtain ⟨n, hn⟩ := runQ_ok y st st' e φs h hφ; exact ⟨n, by simp only [run, ht]; exact hn⟩
    · cases h
  | .block id x, st, st', e, φs, h, hφ => by
    simp only [runQ] at h
    split at h
    · rename_i j st1 ψ h1
      cases hj : Nat.beq j id with
      | true =>
        rw [hj, cond_true rfl] at h; cases h
        have : (j == id) = true := by simpa using Nat.eq_of_beq_eq_true hj
        obtain ⟨n, hn⟩ := runQ_ok x st st' (.exit j) φs h1 hφ
        exact ⟨n, by simp only [run, hn, this, cond_true rfl]⟩
      | false =>
        rw [hj, cond_false rfl] at h; cases h
        have : (j == id) = false := by simpa using Nat.ne_of_beq_eq_false hj
        obtain ⟨n, hn⟩ := runQ_ok x st st' (.exit j) φs h1 hφ
        exact ⟨n, by simp only [run, hn, this, cond_false rfl]⟩
    · rename_i hne
      obtain ⟨n, hn⟩ := runQ_ok x st st' e φs h hφ
      refine ⟨n, ?_⟩
      simp only [run, hn]
      cases e with
      | normal => rfl
      | exit j => exact absurd h (hne j st' φs)
      | ret => rfl
  | .loop x, st, st', e, φs, h, hφ => by
    simp only [runQ] at h
    split at h
    · cases h
      obtain ⟨n, hφ⟩ := (allP_cons.1 hφ).1
      unfold loopN at hφ
      simp only [Option.map_eq_some_iff, Prod.mk.injEq] at hφ
      obtain ⟨p, h1, h2, h3⟩ := hφ
      obtain ⟨e', st0⟩ := p
      dsimp only at h2 h3
      subst h2
      exact ⟨n, by simp only [run, evLoopC_ok, h1, h3]⟩
    · cases h
  | .rangeFunc .., st, st', e, φs, h, _ => by simp [runQ] at h
  | .scope .., st, st', e, φs, h, _ => by simp [runQ] at h
  | .label .., st, st', e, φs, h, _ => by simp [runQ] at h
  | .goto .., st, st', e, φs, h, _ => by simp [runQ] at h
  | .refuse .., st, st', e, φs, h, _ => by simp [runQ] at h

/-- an operation's value that is told, what is asked for it, and its proof -/
structure Ask where
  i : Nat
  j : Nat
  o : Ora
  p : Prop
  h : p
def Ask.key (a : Ask) : Nat × Nat × Ora := (a.i, a.j, a.o)
theorem allP_ask : ∀ π : List Ask, allP (π.map Ask.p)
  | [] => trivial
  | a :: l => allP_cons.2 ⟨a.h, allP_ask l⟩

noncomputable def runW' (C : Cfg) (fl : Nat) (π : List (Nat × Nat × Ora)) (f : FuncId) (args : List AV) (hp : List Blk) : Option (List AV × List Blk × List Prop) :=
  match C.ext f with
  | some _ => none
  | none => match C.code f with
    | none => none
    | some fi => match runQ C fl f π fi.body ⟨args.map .v ++ List.replicate (fi.ntmps - args.length) .sk, hp⟩ with
      | some (.exit _, _) => none
      | some (_, st, φs) => match resultsE C st fi.results with
        | none => none
        | some rs => some (rs, st.hp, φs)
      | none => none

/-- the results that a call's value is made of -/
def unone : AV → List AV
  | .tup vs => vs
  | v => [v]
theorem evX {fl : Nat} {f : FuncId} {args : List AV} {hp : List Blk} {R : Option (AV × List Blk)} {r : AV × List Blk} (v : AV) (hpF : List Blk) (π : List Ask)
    (h : runW' C (flAt C f fl hp) (π.map Ask.key) f args hp = some (unone v, hpF, π.map Ask.p)) (ht : tailE C f hp hpF (unone v) = some r) (hr : some r = R) : evI C fl f args hp = R := by
  subst hr
  revert h ht
  generalize unone v = rs
  intro h ht
  unfold runW' at h
  split at h
  · cases h
  · rename_i he
    split at h
    · cases h
    · rename_i fi hfi
      split at h
      · cases h
      · rename_i e st ψ hne hr
        split at h
        · cases h
        · rename_i rs' hrs
          simp only [Option.some.injEq, Prod.mk.injEq] at h
          obtain ⟨rfl, rfl, rfl⟩ := h
          obtain ⟨n, hn⟩ := runQ_ok _ _ _ _ _ hr (allP_ask π)
          obtain ⟨k, hk⟩ := run_lim _ _ _ hn
          have hR := run_mono (evCall_mono (Nat.le_max_right n k)) (Nat.le_max_left n k) _ _ _ (hk k (Nat.le_refl _))
          refine evI_of (k := max n k + 1) ?_
          unfold evCall
          rw [he]
          dsimp only
          rw [hfi]
          dsimp only
          unfold flAt at hR
          unfold tailE at ht
          cases hkd : C.kind f <;> simp only [hkd] at hR ht ⊢ <;> rw [hR] <;> cases e <;> first | exact absurd rfl (hne _) | (simp only [hrs]; exact ht)
      · cases h

/-- a loop's round -/
theorem loopStep {b : Code} {r : Nat} {st st1 st2 st' : St} {e : Ex} (π : List Ask) (h : runQ C fl me (π.map Ask.key) b st = some (.normal, st1, π.map Ask.p)) (hc : cleanSt (C.loop me r) st1 = st2)
    (hn : LoopI C fl me b r st2 e st') : LoopI C fl me b r st e st' := by
  subst hc
  obtain ⟨n, hn1⟩ := runQ_ok _ _ _ _ _ h (allP_ask π)
  obtain ⟨m, hm⟩ := hn
  unfold loopN at hm
  simp only [Option.map_eq_some_iff] at hm
  obtain ⟨q, h1, h2⟩ := hm
  refine ⟨max n m + 1, ?_⟩
  unfold loopN
  have hb : ∀ st r, run C (evI C fl) fl me m b st = some r → run C (evI C fl) fl me (max n m + 1) b st = some r := fun st r => run_mono (LeC.refl _) (by omega) b st r
  rw [show evLoopC (run C (evI C fl) fl me (max n m + 1) b) (cleanSt (C.loop me r)) (max n m + 1) st = some q from ?_, ← h2]; rfl
  have h3 := run_mono (LeC.refl _) (by omega : n ≤ max n m + 1) b st _ hn1
  show (match run C (evI C fl) fl me (max n m + 1) b st with
    | some (.normal, st') => evLoopC (run C (evI C fl) fl me (max n m + 1) b) (cleanSt (C.loop me r)) (max n m) (cleanSt (C.loop me r) st')
    | r => r) = some q
  rw [h3]
  exact evLoopC_mono hb m _ _ _ (by omega) h1

/-- a loop's end -/
theorem loopEnd {b : Code} {r : Nat} {st st1 st' : St} {e : Ex} (π : List Ask) (h : runQ C fl me (π.map Ask.key) b st = some (e, st1, π.map Ask.p)) (hc : cleanSt (C.after me r) st1 = st') (he : e ≠ .normal) :
    LoopI C fl me b r st e st' := by
  subst hc
  obtain ⟨n, hn1⟩ := runQ_ok _ _ _ _ _ h (allP_ask π)
  refine ⟨n + 1, ?_⟩
  unfold loopN
  have h3 := run_mono (LeC.refl _) (by omega : n ≤ n + 1) b st _ hn1
  rw [show evLoopC (run C (evI C fl) fl me (n + 1) b) (cleanSt (C.loop me r)) (n + 1) st = some (e, st1) from ?_]; rfl
  show (match run C (evI C fl) fl me (n + 1) b st with
    | some (.normal, st') => evLoopC (run C (evI C fl) fl me (n + 1) b) (cleanSt (C.loop me r)) n (cleanSt (C.loop me r) st')
    | r => r) = some (e, st1)
  rw [h3]
  cases e with
  | normal => exact absurd rfl he
  | exit _ => rfl
  | ret => rfl

@[reducible] def AI (n : Int) : AV := .int .i64 n
@[reducible] def AU (n : Int) : AV := .int .u8 n
@[reducible] def AW (n : Int) : AV := .int .u64 n
@[reducible] def J : TV := .junk
@[reducible] def BC (cs : List AV) : Blk := .cells cs

/-! what may be asked -/
namespace Ask
/-- a bool -/
def b (i j : Nat) {c v : Bool} (h : c = v) : Ask := ⟨i, j, .val (.bool v), some (AV.bool c) = some (AV.bool v), by rw [h]⟩
/-- a number that is not wrapped -/
def w (i j : Nat) (k : IntKind) (n : Int) {x : Int} (h : x = n) : Ask := ⟨i, j, .val (.int k n), some (AV.int k x) = some (AV.int k n), by rw [h]⟩
def wc (i j : Nat) (k : IntKind) (n : Int) (hp : List Blk) {x : Int} (h : x = n) : Ask := ⟨i, j, .mem (.int k n) hp .z, ∀ ts : List TV, some (Res.mk (.v (.int k x)) ts hp .z) = some (Res.mk (.v (.int k n)) ts hp .z), fun ts => by rw [h]⟩
/-- a value -/
def v (i j : Nat) {x : Option AV} {a : AV} (h : x = some a) : Ask := ⟨i, j, .val a, x = some a, h⟩
/-- an address -/
def a (i j : Nat) {x : Option TV} {a : AV} (h : x = some (.v a)) : Ask := ⟨i, j, .val a, x = some (.v a), h⟩
/-- a call -/
def c (i j : Nat) {C : Cfg} {fl : Nat} {g : FuncId} {args : List AV} {hp hp' : List Blk} {v : AV} (h : evI C fl g args hp = some (v, hp')) : Ask := ⟨i, j, .res v hp', evI C fl g args hp = some (v, hp'), h⟩
/-- a loop -/
def l (r : Nat) {C : Cfg} {fl : Nat} {me : FuncId} {b : Code} {r' : Nat} {st st' : St} {e : Ex} (h : LoopI C fl me b r' st e st') : Ask := ⟨r, 1000000, .loop e st', LoopI C fl me b r' st e st', h⟩
/-- a reading, an append, .. -/
def m (i j : Nat) {x : List TV → Option Res} {v : AV} {hp : List Blk} {fp : Fp} (h : ∀ ts, x ts = some ⟨.v v, ts, hp, fp⟩) : Ask := ⟨i, j, .mem v hp fp, ∀ ts, x ts = some ⟨.v v, ts, hp, fp⟩, h⟩
/-- a piece -/
def s (i j : Nat) {x : List TV → Option AV} {v : AV} (hp : List Blk) (fp : Fp) (h : ∀ ts, x ts = some v) : Ask := ⟨i, j, .mem v hp fp, (∀ ts, x ts = some v) ∧ hp = hp ∧ fp = fp, ⟨h, rfl, rfl⟩⟩
/-- a store -/
def t (i j : Nat) {x : List TV → Option Res} {hp : List Blk} {fp : Fp} (h : ∀ ts, x ts = some ⟨.sk, ts, hp, fp⟩) : Ask := ⟨i, j, .sto hp fp, ∀ ts, x ts = some ⟨.sk, ts, hp, fp⟩, h⟩
/-- a bool that is read -/
def lb (i j : Nat) (hp : List Blk) (sl : Nat) {c v : Bool} (h : c = v) : Ask := ⟨i, j, .mem (.bool v) hp (.lr sl), some (AV.bool c) = some (AV.bool v) ∧ hp = hp ∧ Fp.lr sl = Fp.lr sl, by rw [h]; exact ⟨rfl, rfl, rfl⟩⟩
def cb (i j : Nat) {C : Cfg} {fl : Nat} {g : FuncId} {args : List AV} {hp hp' : List Blk} {c v : Bool} (h : evI C fl g args hp = some (.bool c, hp')) (e : c = v) : Ask := ⟨i, j, .res (.bool v) hp', evI C fl g args hp = some (.bool v, hp'), e ▸ h⟩
def mb (i j : Nat) {x : List TV → Option Res} {c v : Bool} {hp : List Blk} {fp : Fp} (h : ∀ ts, x ts = some ⟨.v (.bool c), ts, hp, fp⟩) (e : c = v) : Ask := ⟨i, j, .mem (.bool v) hp fp, ∀ ts, x ts = some ⟨.v (.bool v), ts, hp, fp⟩, e ▸ h⟩
def vb (i j : Nat) {x : Option AV} {c v : Bool} (h : x = some (.bool c)) (e : c = v) : Ask := ⟨i, j, .val (.bool v), x = some (.bool v), e ▸ h⟩
end Ask

/-! what the tool's texts lean on -/
theorem bcases (b : Bool) : b = true ∨ b = false := by cases b <;> simp
theorem wrap_i64' {n : Int} (h : -9223372036854775808 ≤ n ∧ n ≤ 9223372036854775807) : IntKind.wrap .i64 n = n := wrap_i64 h.1 h.2
theorem wrap_i32' {n : Int} (h : -2147483648 ≤ n ∧ n ≤ 2147483647) : IntKind.wrap .i32 n = n := wrap_i32 h.1 h.2
theorem wrap_u64' {n : Int} (h : 0 ≤ n ∧ n < 18446744073709551616) : IntKind.wrap .u64 n = n := wrap_u64 h.1 h.2
theorem wrap_u8' {n : Int} (h : 0 ≤ n ∧ n < 256) : IntKind.wrap .u8 n = n := wrap_u8 h.1 h.2
theorem wrap_i8' {n : Int} (h : -128 ≤ n ∧ n ≤ 127) : IntKind.wrap .i8 n = n := by
  unfold IntKind.wrap; simp [IntKind.bits, IntKind.signed]; omega
/-- a text's byte -/
def gb (s : List UInt8) (i : Nat) : UInt8 := s.getD i 0
theorem index_gb {t : TypeId} {s : List UInt8} {n : Int} (ht : isStr C t = true) (h0 : 0 ≤ n) (h : n < s.length) : indexE C t (.str s) n = some (.int .u8 (gb s n.toNat).toNat) := by
  refine index_str ht h0 ?_
  unfold gb
  rw [List.getD_eq_getElem?_getD, List.getElem?_eq_getElem (by omega)]; rfl
theorem slice_strI {t : TypeId} {s : List UInt8} {k k' : IntKind} {n m : Int} {hp : List Blk} (ht : isStr C t = true) (h0 : 0 ≤ n) (h1 : n ≤ m) (h2 : m ≤ s.length) : ∀ ts, sliceE C ⟨ts, hp⟩ t (.v (.str s)) (some (.int k n)) (some (.int k' m)) none = some (.str ((s.drop n.toNat).take (m.toNat - n.toNat))) :=
  fun _ => slice_str ht h0 h1 h2 _
theorem slice_str_toI {t : TypeId} {s : List UInt8} {k' : IntKind} {m : Int} {hp : List Blk} (ht : isStr C t = true) (h1 : 0 ≤ m) (h2 : m ≤ s.length) : ∀ ts, sliceE C ⟨ts, hp⟩ t (.v (.str s)) none (some (.int k' m)) none = some (.str (s.take m.toNat)) :=
  fun _ => slice_str_to ht h1 h2 _
theorem slice_str_fromI {t : TypeId} {s : List UInt8} {k : IntKind} {n : Int} {hp : List Blk} (ht : isStr C t = true) (h0 : 0 ≤ n) (h2 : n ≤ s.length) : ∀ ts, sliceE C ⟨ts, hp⟩ t (.v (.str s)) (some (.int k n)) none none = some (.str (s.drop n.toNat)) :=
  fun _ => slice_str_from ht h0 h2 _
def isSlcT (C : Cfg) (t : TypeId) (sz : Nat) : Bool := match C.ty t with
  | some ⟨.slice e, _, _, _, _⟩ => (match C.ty e with | some ei => sz == ei.size | none => false)
  | _ => false
/-- an element's address, of a slice that lies in a block -/
theorem indexAddr_arr {t : TypeId} {sz b off len : Nat} {n : Int} (ht : isSlcT C t sz = true) (h0 : 0 ≤ n) (h : n < len) : indexAddr C t (.v (.arr sz b off len)) n = some (.v (.ptr b (off + n.toNat * sz))) := by
  unfold isSlcT at ht
  split at ht
  · rename_i e _ _ _ _ h1
    split at ht
    · rename_i ei h2
      unfold indexAddr
      rw [decide_eq_false (by omega), cond_false rfl]
      simp only [h1, h2, ht, decide_eq_true h, Bool.and_self, cond_true rfl]
    · cases ht
  · cases ht
/-- an element's address, of a slice that is a value -/
theorem indexAddr_lit {t : TypeId} {sz : Nat} {own : Own} {xs : List AV} {n : Int} {x : AV} (ht : isSlcT C t sz = true) (h0 : 0 ≤ n) (h : xs[n.toNat]? = some x) : indexAddr C t (.v (.lit sz own xs)) n = some (.v (.rop x)) := by
  unfold isSlcT at ht
  split at ht
  · rename_i e _ _ _ _ h1
    split at ht
    · rename_i ei h2
      unfold indexAddr
      rw [decide_eq_false (by omega), cond_false rfl]
      simp only [h1, h2, ht, cond_true rfl, getAt_eq, h, Option.map_some]
    · cases ht
  · cases ht
theorem take_setAt {hp : List Blk} {b n : Nat} {x : Blk} (h : hp.length = n) : (setAt hp b x).take n = setAt hp b x := by
  rw [List.take_of_length_le (by rw [setAt_length]; omega)]
theorem take_appT {hp rest : List Blk} {n : Nat} (h : hp.length = n) : (hp ++ rest).take n = hp.take n := by
  rw [List.take_append_of_le_length (by omega)]
theorem take_appL {hp rest : List Blk} {n : Nat} (h : n ≤ hp.length) : (hp ++ rest).take n = hp.take n := by
  rw [List.take_append_of_le_length h]
theorem tlK {f : FuncId} {hp hpF : List Blk} {v : AV} (hk : C.kind f = .keep) (ho : one (unone v) = v) : tailE C f hp hpF (unone v) = some (v, hpF) := by rw [tail_keep hk, ho]
theorem tlN {f : FuncId} {hp hpF : List Blk} {v : AV} (hk : C.kind f = .new) (ho : one (unone v) = v) : tailE C f hp hpF (unone v) = some (v, hpF) := by rw [tail_new hk, ho]
theorem tlP {f : FuncId} {hp hpF : List Blk} {v v' : AV} (hk : C.kind f = .pure) (ho : one (unone v) = v) (hs : shutV hpF hp.length 100000 v = some v') : tailE C f hp hpF (unone v) = some (v', hp) := tail_pure hk (by rw [ho]; exact hs)
theorem tlM {f : FuncId} {hp hpF hp' : List Blk} {v v' : AV} (hk : C.kind f = .mut) (ho : one (unone v) = v) (ht : hpF.take hp.length = hp') (hc : cloH hp.length hp' = true) (hs : shutV hpF hp.length 100000 v = some v') : tailE C f hp hpF (unone v) = some (v', hp') := tail_mut hk ht hc (by rw [ho]; exact hs)
theorem beqU {x y : UInt8} (h : x = y) : ((x.toNat : Int) == (y.toNat : Int)) = true := by rw [h]; simp
theorem bneU {x y : UInt8} (h : ¬ x = y) : ((x.toNat : Int) == (y.toNat : Int)) = false := by
  rw [beq_eq_false_iff_ne]; intro e; exact h (UInt8.toNat_inj.1 (by omega))
theorem beqUL {x : UInt8} (y : UInt8) {n : Int} (hy : (y.toNat : Int) = n) (h : x = y) : ((x.toNat : Int) == n) = true := by subst hy; exact beqU h
theorem bneUL {x : UInt8} (y : UInt8) {n : Int} (hy : (y.toNat : Int) = n) (h : ¬ x = y) : ((x.toNat : Int) == n) = false := by subst hy; exact bneU h
theorem shutT {hp : List Blk} {n : Nat} {v v' : AV} (h : shutV hp n 100000 v = some v') : shutV hp n 100000 v = some v' := h

/-- one round: what comes behind is what comes of it -/
def LoopS (C : Cfg) (fl : Nat) (me : FuncId) (b : Code) (r : Nat) (st st2 : St) : Prop := ∀ e st', LoopI C fl me b r st2 e st' → LoopI C fl me b r st e st'
/-- a round, its end's slots cleaned -/
noncomputable def runC (C : Cfg) (fl : Nat) (me : FuncId) (r : Nat) (π : List (Nat × Nat × Ora)) (b : Code) (st : St) : Option (Ex × St × List Prop) :=
  match runQ C fl me π b st with
  | some (.normal, st1, φs) => some (.normal, cleanSt (C.loop me r) st1, φs)
  | some (e, st1, φs) => some (e, cleanSt (C.after me r) st1, φs)
  | none => none
theorem runC_n {r : Nat} {π : List (Nat × Nat × Ora)} {b : Code} {st st2 : St} {φs : List Prop} (h : runC C fl me r π b st = some (.normal, st2, φs)) : ∃ st1, runQ C fl me π b st = some (.normal, st1, φs) ∧ cleanSt (C.loop me r) st1 = st2 := by
  unfold runC at h
  split at h
  · rename_i st1 ψ h1; cases h; exact ⟨st1, h1, rfl⟩
  · rename_i e st1 ψ hne h1; cases h; exact (hne rfl).elim
  · cases h
theorem runC_e {r : Nat} {π : List (Nat × Nat × Ora)} {b : Code} {st st2 : St} {e : Ex} {φs : List Prop} (he : e ≠ .normal) (h : runC C fl me r π b st = some (e, st2, φs)) : ∃ st1, runQ C fl me π b st = some (e, st1, φs) ∧ cleanSt (C.after me r) st1 = st2 := by
  unfold runC at h
  split at h
  · cases h; exact absurd rfl he
  · rename_i e' st1 ψ hne h1; cases h; exact ⟨st1, h1, rfl⟩
  · cases h
theorem loopStepS {b : Code} {r : Nat} {st st3 : St} (st2 : St) (π : List Ask) (h : runC C fl me r (π.map Ask.key) b st = some (.normal, st2, π.map Ask.p)) (hq : st2 = st3) : LoopS C fl me b r st st3 := by
  subst hq
  obtain ⟨st1, h1, h2⟩ := runC_n h
  exact fun _ _ hn => loopStep π h1 h2 hn
theorem loopStepC {b : Code} {r : Nat} {st st' st3 : St} {e e3 : Ex} (st2 : St) (π : List Ask) (h : runC C fl me r (π.map Ask.key) b st = some (.normal, st2, π.map Ask.p))
    (hn : LoopI C fl me b r st2 e st') (hq : (e, st') = (e3, st3)) : LoopI C fl me b r st e3 st3 := by
  cases hq
  obtain ⟨st1, h1, h2⟩ := runC_n h
  exact loopStep π h1 h2 hn
theorem loopEndC {b : Code} {r : Nat} {st st3 : St} {e3 : Ex} (e1 : Ex) (st2 : St) (π : List Ask) (h : runC C fl me r (π.map Ask.key) b st = some (e1, st2, π.map Ask.p)) (he : e1 ≠ .normal) (hq : (e1, st2) = (e3, st3)) :
    LoopI C fl me b r st e3 st3 := by
  cases hq
  obtain ⟨st1, h1, h2⟩ := runC_e he h
  exact loopEnd π h1 h2 he
end Go.Proofs.YtkocimfdgdegfaaGreatDoor.E

/- Slices that are values; what of a heap stays. -/
namespace Go.Proofs.YtkocimfdgdegfaaGreatDoor.E
open Go Go.RowKit Go.Lib
variable {C : Cfg}

theorem blk_last' {hp : List Blk} {n : Nat} {cs : List AV} {rest : List Blk} (h : hp.length = n) : blkCells (hp ++ .cells cs :: rest) n = some cs := h ▸ blk_last
/-- a slice that is a value, of these elements -/
def IsSl (sz : Nat) (x : AV) (vs : List AV) : Prop := (x = .nilS ∧ vs = []) ∨ ∃ o, x = .lit sz o vs
theorem IsSl.nil (sz : Nat) : IsSl sz .nilS [] := .inl ⟨rfl, rfl⟩
theorem IsSl.lit (sz : Nat) (o : Own) (vs : List AV) : IsSl sz (.lit sz o vs) vs := .inr ⟨o, rfl⟩
def isSlc0 (C : Cfg) (t : TypeId) : Bool := match C.ty t with
  | some ⟨.slice _, _, _, _, _⟩ => true
  | _ => false
theorem len_sl {t : TypeId} {ts' : List TypeId} {fl : Nat} {ar : Bool} {sz : Nat} {x : AV} {vs : List AV} {hp : List Blk} (h : IsSl sz x vs) (ht : isSlc0 C t = true) : ∀ ts, builtinE C fl ar ⟨ts, hp⟩ .len (t :: ts') [x] = some ⟨.v (.int .i64 (vs.length : Int)), ts, hp, .z⟩ := by
  intro ts
  unfold isSlc0 at ht
  split at ht
  · rename_i e _ _ _ _ h1
    rcases h with ⟨rfl, rfl⟩ | ⟨o, rfl⟩ <;> simp [builtinE, lenE, h1, slcLen, ofO]
  · cases ht
theorem indexAddr_sl {t : TypeId} {sz : Nat} {x : AV} {vs : List AV} {n : Int} {v : AV} (h : IsSl sz x vs) (ht : isSlcT C t sz = true) (h0 : 0 ≤ n) (hv : vs[n.toNat]? = some v) : indexAddr C t (.v x) n = some (.v (.rop v)) := by
  rcases h with ⟨rfl, rfl⟩ | ⟨o, rfl⟩
  · simp at hv
  · exact indexAddr_lit ht h0 hv

/-- the blocks that are not listed stay -/
def FrC (S : List Nat) (hp hp' : List Blk) : Prop := hp.length ≤ hp'.length ∧ ∀ b cs, b ∉ S → blkCells hp b = some cs → blkCells hp' b = some cs
theorem FrC.refl (S : List Nat) (hp : List Blk) : FrC S hp hp := ⟨Nat.le_refl _, fun _ _ _ h => h⟩
theorem FrC.trans {S : List Nat} {a b c : List Blk} (h : FrC S a b) (g : FrC S b c) : FrC S a c := ⟨Nat.le_trans h.1 g.1, fun x cs hx hc => g.2 x cs hx (h.2 x cs hx hc)⟩
theorem FrC.mono {S T : List Nat} {a b : List Blk} (h : FrC S a b) (hs : ∀ x ∈ S, x ∈ T) : FrC T a b := ⟨h.1, fun x cs hx hc => h.2 x cs (fun hh => hx (hs x hh)) hc⟩
theorem FrC.app (S : List Nat) (hp l : List Blk) : FrC S hp (hp ++ l) := ⟨by simp, fun _ _ _ h => blk_app h⟩
theorem FrC.set {S : List Nat} {hp : List Blk} {b : Nat} {x : Blk} (h : b ∈ S) : FrC S hp (setAt hp b x) :=
  ⟨by rw [setAt_length]; exact Nat.le_refl _, fun c cs hc hb => blk_set_ne (fun e => hc (e ▸ h)) hb⟩
/-- a block that is no row of cells turned: all rows of cells stay -/
theorem FrC.setFam {S : List Nat} {hp : List Blk} {b : Nat} {x : Blk} (h : blkCells hp b = none) : FrC S hp (setAt hp b x) :=
  ⟨by rw [setAt_length]; exact Nat.le_refl _, fun c cs _ hb => blk_set_ne (fun e => by subst e; rw [h] at hb; cases hb) hb⟩
theorem FrC.put3 {S : List Nat} {hp h3 h7 : List Blk} {a b : Nat} {x y : Blk} (g : FrC [] (setAt hp a x) h3) (k : FrC S (setAt h3 b y) h7) (ha : a ∈ S) (hb : b ∈ S) : FrC S hp h7 :=
  (FrC.set ha).trans ((g.mono (by simp)).trans ((FrC.set hb).trans k))
theorem frC_blk {S : List Nat} {hp hp' : List Blk} {b : Nat} {cs : List AV} (h : FrC S hp hp') (hb : blkCells hp b = some cs) (hn : b ∉ S) : blkCells hp' b = some cs := h.2 b cs hn hb

/-- a slice that grows in its own row -/
def Gr (fl sz : Nat) (hp : List Blk) (x : AV) (vs : List AV) : Prop := (x = .nilS ∧ vs = []) ∨ ∃ g, x = .lit sz (.fam g 0) vs ∧ getAt hp g = some (.fam vs.length) ∧ fl ≤ g
theorem Gr.nil (fl sz : Nat) (hp : List Blk) : Gr fl sz hp .nilS [] := .inl ⟨rfl, rfl⟩
theorem Gr.isSl {fl sz : Nat} {hp : List Blk} {x : AV} {vs : List AV} (h : Gr fl sz hp x vs) : IsSl sz x vs := by
  rcases h with ⟨rfl, rfl⟩ | ⟨g, rfl, _⟩
  · exact .nil _
  · exact .lit _ _ _
def elT (C : Cfg) (t : TypeId) (sz bytes : Nat) : Bool := match C.ty t with
  | some ⟨.slice e, _, _, _, _⟩ => (match C.ty e with | some ei => ei.size == sz && ei.bytes == bytes && !(sz == 0) && !(bytes == 0) | none => false)
  | _ => false
theorem elT_ty {t : TypeId} {sz bytes : Nat} (h : elT C t sz bytes = true) : ∃ e a b c d ei, C.ty t = some ⟨.slice e, a, b, c, d⟩ ∧ C.ty e = some ei ∧ ei.size = sz ∧ ei.bytes = bytes ∧ sz ≠ 0 ∧ bytes ≠ 0 := by
  unfold elT at h
  split at h
  · rename_i e a b c d h1
    split at h
    · rename_i ei h2
      simp at h
      obtain ⟨⟨⟨h3, h4⟩, h5⟩, h6⟩ := h
      exact ⟨e, a, b, c, d, ei, h1, h2, h3, h4, h5, h6⟩
    · cases h
  · cases h
/-- one element more -/
theorem append_gr {fl sz bytes : Nat} {hp : List Blk} {x y : AV} {vs ws : List AV} {t : TypeId} (h : Gr fl sz hp x vs) (hy : elems hp sz y = some ws) (ht : elT C t sz bytes = true) (hw : ws ≠ []) (hl : (vs.length + ws.length) * bytes ≤ 35184372088832) (hf : fl ≤ hp.length) :
    ∃ x' hp', (∀ ts, builtinE C fl false ⟨ts, hp⟩ .append [t, t] [x, y] = some ⟨.v x', ts, hp', bif isArr y then .hw else .fw⟩) ∧ Gr fl sz hp' x' (vs ++ ws) ∧ FrC [] hp hp' := by
  obtain ⟨e, a, b, c, d, ei, h1, h2, rfl, rfl, h5, h6⟩ := elT_ty ht
  have hk : (ws.length == 0) = false := by simpa using hw
  have k5 : (ei.size == 0) = false := by simpa using h5
  have k6 : (ei.bytes == 0) = false := by simpa using h6
  rcases h with ⟨rfl, rfl⟩ | ⟨g, rfl, h3, h4⟩
  · refine ⟨.lit ei.size (.fam hp.length 0) ws, hp ++ [.fam ws.length], fun ts => ?_, .inr ⟨hp.length, by simp, ?_, hf⟩, .app _ _ _⟩
    · simp only [List.length_nil, Nat.zero_add] at hl
      have n1 : elems hp ei.size .nilS = some [] := rfl
      have n2 : isArr .nilS = false := rfl
      have n3 : isSlc .nilS = true := rfl
      simp [builtinE, appendE, appElems, h1, h2, hy, hl, k5, k6, hk, n1, n2, n3]
    · rw [getAt_eq, List.getElem?_append_right (Nat.le_refl _), Nat.sub_self]; simp
  · refine ⟨.lit ei.size (.fam g 0) (vs ++ ws), setAt hp g (.fam (vs.length + ws.length)), fun ts => ?_, .inr ⟨g, rfl, ?_, h4⟩, .setFam (by unfold blkCells; rw [h3])⟩
    · have n1 : elems hp ei.size (.lit ei.size (.fam g 0) vs) = some vs := by simp [elems]
      have n2 : isArr (.lit ei.size (.fam g 0) vs) = false := rfl
      have n3 : isSlc (.lit ei.size (.fam g 0) vs) = true := rfl
      simp [builtinE, appendE, appElems, h1, h2, hy, hl, k5, k6, hk, n1, n2, n3, h3, h4]
    · rw [getAt_eq, setAt_eq, List.getElem?_set_self]
      · simp
      · rw [getAt_eq] at h3; exact (List.getElem?_eq_some_iff.1 h3).1
theorem elems_lit' {hp : List Blk} {sz : Nat} {o : Own} {vs : List AV} : elems hp sz (.lit sz o vs) = some vs := by simp [elems]
theorem indexAddr_arr' {t : TypeId} {sz b off len o : Nat} {n : Int} (ht : isSlcT C t sz = true) (h0 : 0 ≤ n) (h : n < len) (ho : off + n.toNat * sz = o) : indexAddr C t (.v (.arr sz b off len)) n = some (.v (.ptr b o)) := ho ▸ indexAddr_arr ht h0 h
theorem gr_set {fl sz b : Nat} {hp : List Blk} {x : AV} {vs cs c : List AV} (h : Gr fl sz hp x vs) (hb : blkCells hp b = some cs) : Gr fl sz (setAt hp b (.cells c)) x vs := by
  rcases h with ⟨rfl, rfl⟩ | ⟨g, rfl, h3, h4⟩
  · exact .nil _ _ _
  · refine .inr ⟨g, rfl, ?_, h4⟩
    have : b ≠ g := fun e => by subst e; unfold blkCells at hb; rw [h3] at hb; cases hb
    rw [getAt_eq, setAt_eq, List.getElem?_set_ne this, ← getAt_eq]; exact h3
theorem gr_setB {fl sz b : Nat} {hp : List Blk} {x : AV} {vs : List AV} {bs : List Bool} {c : List AV} (h : Gr fl sz hp x vs) (hb : blkCells hp b = some (bs.map .bool)) : Gr fl sz (setAt hp b (.cells c)) x vs := gr_set h hb
def isSlc1 (C : Cfg) (t : TypeId) : Bool := match C.ty t with
  | some ⟨.slice _, sz, _, _, _⟩ => sz == 1
  | _ => false
theorem IsSl.one {sz : Nat} {x : AV} {vs : List AV} (h : IsSl sz x vs) : x.cells = [x] ∧ x.noTup = true := by
  rcases h with ⟨rfl, rfl⟩ | ⟨o, rfl⟩ <;> exact ⟨rfl, rfl⟩
theorem store_sl {t : TypeId} {b off fl sz : Nat} {hp hp' : List Blk} {cs : List AV} {x : AV} {vs : List AV} (hx : IsSl sz x vs) (ht : isSlc1 C t = true) (h : blkCells hp b = some cs) (ho : decide (off < cs.length) = true) (hf : fl ≤ b)
    (hh : setAt hp b (.cells (splice cs off [x])) = hp') : ∀ ts, storeAt C fl ⟨ts, hp⟩ t (.v (.ptr b off)) x = some ⟨.sk, ts, hp', .hw⟩ := by
  unfold isSlc1 at ht
  split at ht
  · rename_i e sz' _ _ _ h1
    intro ts
    subst hh
    have e : sz' = 1 := by simpa using ht
    subst e
    obtain ⟨h2, h3⟩ := hx.one
    have e4 : decide (fl ≤ b) = true := decide_eq_true hf
    have e5 : decide (off + 1 ≤ cs.length) = true := decide_eq_true (of_decide_eq_true ho)
    unfold storeAt
    simp only [h1, h, h2, h3, e4, e5, List.length_cons, List.length_nil, Nat.zero_add, Bool.and_self, cond_true rfl]
    rfl
  · cases ht

/-! a row of bools -/
def isBoolT (C : Cfg) (t : TypeId) : Bool := match C.ty t with
  | some ⟨.bool, sz, _, _, _⟩ => sz == 1
  | _ => false
theorem load_bools {t : TypeId} {b off : Nat} {hp : List Blk} {m : List Bool} (ht : isBoolT C t = true) (h : blkCells hp b = some (m.map .bool)) (hi : off < m.length) : ∀ ts, loadAt C ⟨ts, hp⟩ t (.v (.ptr b off)) = some ⟨.v (.bool (m.getD off true)), ts, hp, .hb b⟩ := by
  unfold isBoolT at ht
  split at ht
  · rename_i sz _ _ _ h1
    intro ts
    unfold loadAt
    simp only [h1, h, part, TK.agg, cond_false rfl, getAt_eq]
    rw [List.getElem?_map, List.getElem?_eq_getElem hi, List.getD_eq_getElem?_getD, List.getElem?_eq_getElem hi]
    rfl
  · cases ht
theorem splice_one {α : Type} : ∀ (l : List α) (i : Nat) (x : α), i < l.length → splice l i [x] = l.set i x
  | [], _, _, h => by simp at h
  | a :: l, 0, x, _ => by simp [splice]
  | a :: l, i + 1, x, h => by simp only [splice, List.set_cons_succ]; rw [splice_one l i x (by simpa using h)]
theorem map_set' {α β : Type} (f : α → β) : ∀ (l : List α) (i : Nat) (x : α), (l.map f).set i (f x) = (l.set i x).map f
  | [], _, _ => rfl
  | a :: l, 0, x => rfl
  | a :: l, i + 1, x => congrArg (f a :: ·) (map_set' f l i x)
theorem store_bools {t : TypeId} {b off fl : Nat} {hp hp' : List Blk} {m : List Bool} {v : Bool} (ht : isBoolT C t = true) (h : blkCells hp b = some (m.map .bool)) (hi : off < m.length) (hf : fl ≤ b) (hh : setAt hp b (.cells ((m.set off v).map .bool)) = hp') :
    ∀ ts, storeAt C fl ⟨ts, hp⟩ t (.v (.ptr b off)) (.bool v) = some ⟨.sk, ts, hp', .hw⟩ := by
  unfold isBoolT at ht
  split at ht
  · rename_i sz _ _ _ h1
    intro ts
    subst hh
    have e : sz = 1 := by simpa using ht
    subst e
    unfold storeAt
    have e2 : splice (m.map AV.bool) off [AV.bool v] = (m.set off v).map .bool := by rw [splice_one _ _ _ (by simpa using hi), map_set']
    have e3 : decide (off + 1 ≤ m.length) = true := decide_eq_true hi
    have e4 : decide (fl ≤ b) = true := decide_eq_true hf
    have e5 : decide (off + 1 ≤ (m.map AV.bool).length) = true := decide_eq_true (by rw [List.length_map]; exact hi)
    simp only [h1, h, AV.cells, AV.noTup, e2, e4, e5, List.length_cons, List.length_nil, Nat.zero_add, Bool.and_self, cond_true rfl]
    rfl
  · cases ht
def isBools (C : Cfg) (t : TypeId) : Bool := match C.ty t with
  | some ⟨.slice e, _, _, _, _⟩ => (match C.ty e with | some ⟨.bool, sz, by', [.bool false], _⟩ => sz == 1 && by' == 1 | _ => false)
  | _ => false
theorem zeros_bools (q : Bool) : ∀ n : Nat, zeros ⟨.bool, 1, 1, [.bool false], q⟩ n = (List.replicate n false).map .bool
  | 0 => rfl
  | n + 1 => by simp only [zeros, List.replicate_succ, List.map_cons, zeros_bools q n]; rfl
theorem mkSl_bools {t : TypeId} {n : Nat} {hp : List Blk} {k k' : IntKind} (ht : isBools C t = true) (hn : n ≤ 1000000) : ∀ ts, mkSl C ⟨ts, hp⟩ t (.int k (n : Int)) (.int k' (n : Int)) = some ⟨.v (.arr 1 hp.length 0 n), ts, hp ++ [.cells ((List.replicate n false).map .bool)], .hw⟩ := by
  unfold isBools at ht
  split at ht
  · rename_i e _ _ _ _ h1
    split at ht
    · rename_i sz by' q h2
      simp at ht
      obtain ⟨rfl, rfl⟩ := ht
      intro ts
      unfold mkSl
      simp only [h1, h2]
      have e1 : decide ((0 : Int) ≤ (n : Int)) = true := decide_eq_true (by omega)
      have e2 : decide ((n : Int) ≤ (n : Int)) = true := decide_eq_true (by omega)
      have e3 : decide ((n : Int) * ((1 : Nat) : Int) ≤ 35184372088832) = true := decide_eq_true (by omega)
      rw [e1, e2, e3]
      simp only [newBlk, Int.toNat_natCast, zeros_bools]
      rfl
    · cases ht
  · cases ht
theorem elems_sl {hp : List Blk} {sz : Nat} {x : AV} {vs : List AV} (h : IsSl sz x vs) : elems hp sz x = some vs := by
  rcases h with ⟨rfl, rfl⟩ | ⟨o, rfl⟩
  · rfl
  · exact elems_lit'
end Go.Proofs.YtkocimfdgdegfaaGreatDoor.E

/- A claim's call, without fuel. -/
namespace Go.Proofs.YtkocimfdgdegfaaGreatDoor.E
open Go Go.RowKit Go.Lib
variable {C : Cfg}
/-- slots that hold nothing of use -/
def js (n : Nat) : List TV := List.replicate n .junk
theorem entry_trueI {P : Program} (hT : TabOK P C) {f : FuncId} {args : List AV} {fl : Nat} {hp' : List Blk} {w : World} {rargs : List Value} (hf : (C.code f).isSome = true) (hg : ∀ g v, C.glob g = some v → VR 0 (lay0 w) w (.rop v) (.pointer (some ⟨g, 0, none⟩)))
    (h : evI C fl f args [] = some (.bool true, hp')) (hA : CR 0 (lay0 w) w args rargs) : Calls P f rargs.toArray w fun e w' => e = .returned (.bool true) ∧ Below w.heap.size w w' := by
  obtain ⟨k, hk⟩ := evI_to h
  exact entry_true hT hf hg (hk k (Nat.le_refl _)) hA
end Go.Proofs.YtkocimfdgdegfaaGreatDoor.E
