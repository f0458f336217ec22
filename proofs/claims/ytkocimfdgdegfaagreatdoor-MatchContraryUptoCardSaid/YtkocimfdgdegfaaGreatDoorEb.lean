/- The soundness of the evaluator's operations: addresses, equality, arithmetic, structs, slices' literals. -/
import Derived.Test.YtkocimfdgdegfaaGreatDoorEa
import Derived.Laws.StructEq
import Derived.Laws.Pointers
set_option linter.unusedSimpArgs false
set_option linter.unusedVariables false
namespace Go.Proofs.YtkocimfdgdegfaaGreatDoor.E
open Go Go.RowKit
variable {P : Program} {C : Cfg}

theorem Addr.plus (rb ro n : Nat) : (⟨rb, ro, none⟩ : Addr).add n = ⟨rb, ro + n, none⟩ := Addr.add_mid rb ro n

theorem getAt_some {α : Type} {l : List α} {i : Nat} {x : α} (h : getAt l i = some x) : l[i]? = some x := by rw [← getAt_eq]; exact h

/-- a field of a struct's type -/
theorem field_ok (hT : TysOK P C) {t : TypeId} {i off : Nat} {ti : TI} (h : field C t i = some (off, ti)) :
    ∃ (fs : Array Field) (f : Field), P.underlying t = some (.struct fs) ∧ fs[i]? = some f ∧ f.offset = off ∧ C.ty f.type = some ti := by
  unfold field at h
  split at h
  · rename_i fs a b c e hti
    obtain ⟨_, d, _, _, hd, _, _, hk, -⟩ := (hT t _ hti).ex
    split at h
    · rename_i off' ft hf
      simp only [Option.map_eq_some_iff, Prod.mk.injEq] at h
      obtain ⟨ti', h1, rfl, rfl⟩ := h
      dsimp only at hk
      cases d <;> simp only [tkOf, reduceCtorEq] at hk
      rename_i fields
      simp only [TK.struct.injEq] at hk
      have := getAt_some hf
      rw [hk, List.getElem?_map, Option.map_eq_some_iff] at this
      obtain ⟨f, hf1, hf2⟩ := this
      simp only [Prod.mk.injEq] at hf2
      rw [Array.getElem?_toList] at hf1
      exact ⟨fields, f, hd, hf1, hf2.1, by rw [hf2.2]; exact h1⟩
    · cases h
  · cases h

theorem run_fieldAt' {t : TypeId} {fs : Array Field} {f : Field} {i : Nat} {fi : TypeInfo} (w : World) (a : Addr) (h1 : P.underlying t = some (.struct fs)) (h2 : fs[i]? = some f) (h3 : P.info? f.type = some fi) (h4 : fi.size ≠ 0) :
    (Instr.fieldAt t (.pointer (some a)) i).run P w = .ok (.pointer (some (a.add f.offset))) w := by
  simp [Instr.fieldAt, run_underlying h1, h2, Instr.sureAddr, fieldPlace, run_sizeOf h3, h4]
theorem run_fieldAt {t : TypeId} {fs : Array Field} {f : Field} {i rb ro : Nat} {fi : TypeInfo} (w : World) (h1 : P.underlying t = some (.struct fs)) (h2 : fs[i]? = some f) (h3 : P.info? f.type = some fi) (h4 : fi.size ≠ 0) :
    (Instr.fieldAt t (.pointer (some ⟨rb, ro, none⟩)) i).run P w = .ok (.pointer (some ⟨rb, ro + f.offset, none⟩)) w := by
  rw [run_fieldAt' w _ h1 h2 h3 h4, Addr.plus]

/-- an address in a block of the heap's, further on -/
theorem VR.ptr_add {n : Nat} {L : Lay} {w : World} {b o : Nat} {a : Addr} (k : Nat) (h : VR n L w (.ptr b o) (.pointer (some a))) : VR n L w (.ptr b (o + k)) (.pointer (some (a.add k))) := by
  cases h with
  | ptr _ _ _ hb ha => exact .ptr b (o + k) _ hb fun p hp => by rw [ha p hp, Addr.plus, Nat.add_assoc]

/-- the address of a part of what cannot be written -/
theorem rop_part {n : Nat} {L : Lay} {w : World} {ti : TI} {cs : List AV} {off rb ro : Nat} {x : AV} (h : part ti cs off = some x) (hr : VR n L w (.rop (.agg cs)) (.pointer (some ⟨rb, ro, none⟩))) :
    VR n L w (.rop x) (.pointer (some ⟨rb, ro + off, none⟩)) := by
  cases hr with
  | rop _ _ _ cv h1 ho h2 =>
    simp only [AV.cells] at h1 ho h2
    have key : ∀ k, (∀ j, j < k → off + j < cs.length) → x.cells.length = k → (∀ (j : Nat) c, x.cells[j]? = some c → cs[off + j]? = some c) → VR n L w (.rop x) (.pointer (some ⟨rb, ro + off, none⟩)) := fun k hk hl hx =>
      .rop x rb (ro + off) (fun j => cv (off + j)) (fun j hj => by rw [Nat.add_assoc]; exact h1 _ (hk j (by omega))) (fun j c hc => ho _ c (hx j c hc)) (fun j c hc => h2 _ c (hx j c hc))
    cases ha : ti.k.agg with
    | false =>
      have hx := part_one ha h
      have hone := ho _ _ hx
      have hlt := (List.getElem?_eq_some_iff.1 hx).1
      refine key 1 (fun j hj => by omega) (by rw [AV.cells_one hone]; rfl) (fun j c hc => ?_)
      rw [AV.cells_one hone] at hc
      cases j with
      | zero => simp at hc; subst hc; exact hx
      | succ j => simp at hc
    | true =>
      obtain ⟨rfl, hlen⟩ := part_agg ha h
      refine key ti.size (fun j hj => ?_) hlen (fun j c hc => ?_)
      · have := hlen; simp at this; omega
      · simp only [AV.cells] at hc
        have hj : j < ti.size := by have := (List.getElem?_eq_some_iff.1 hc).1; omega
        rw [List.getElem?_take_of_lt hj, List.getElem?_drop] at hc
        exact hc

theorem fieldAddr_ok {n : Nat} {L : Lay} {w : World} {ts : List TV} {rt : Array Value} (hT : TysOK P C) {t : TypeId} {i : Nat} {tv tv' : TV} {va : Value} (h : fieldAddr C t i tv = some tv') (ha : OR n L w ts rt tv va) :
    ∃ rv, (Instr.fieldAt t va i).run P w = .ok rv w ∧ OR n L w ts rt tv' rv ∧ ∀ cs, tv' ≠ .bx cs := by
  unfold fieldAddr at h
  split at h
  · cases h
  · rename_i off ti hf
    obtain ⟨fs, f, h1, h2, h3, h4⟩ := field_ok hT hf
    obtain ⟨fi, _, _, hfi, _, hsz, _⟩ := (hT _ _ h4).ex
    cases hb : (ti.size == 0) with
    | true => rw [hb] at h; cases h
    | false =>
      rw [hb, cond_false rfl] at h
      have hne : fi.size ≠ 0 := by simp at hb; omega
      subst h3
      split at h
      · rename_i s o
        cases h
        obtain ⟨rb, g1, rfl, g2⟩ := ha
        exact ⟨_, run_fieldAt w h1 h2 hfi hne, ⟨rb, g1, rfl, g2⟩, fun _ h => by cases h⟩
      · rename_i b o
        cases h
        cases ha with
        | ptr _ _ a hb ha => exact ⟨_, run_fieldAt' w a h1 h2 hfi hne, (VR.ptr b o a hb ha).ptr_add f.offset, fun _ h => by cases h⟩
      · rename_i cs
        simp only [Option.map_eq_some_iff] at h
        obtain ⟨x, hx, rfl⟩ := h
        cases ha with
        | rop _ rb ro cv k1 ko k2 =>
          exact ⟨_, run_fieldAt w h1 h2 hfi hne, rop_part hx (.rop _ rb ro cv k1 ko k2), fun _ h => by cases h⟩
      · cases h


theorem intOf_ok {n : Nat} {L : Lay} {w : World} {k : IntKind} {i : Int} {v : Value} (h : VR n L w (.int k i) v) : v = .int k i := by cases h; rfl
theorem boolOf_ok {n : Nat} {L : Lay} {w : World} {b : Bool} {v : Value} (h : VR n L w (.bool b) v) : v = .bool b := by cases h; rfl

theorem flat_length {sz : Nat} : ∀ (xs : List AV), (∀ x ∈ xs, x.cells.length = sz) → (flat xs).length = xs.length * sz
  | [], _ => by simp [flat]
  | x :: xs, h => by
    have := flat_length xs fun y hy => h y (List.mem_cons_of_mem _ hy)
    simp only [flat, List.length_append, this, h x (List.mem_cons_self ..), List.length_cons, Nat.succ_mul]
    omega

theorem flat_get {sz : Nat} : ∀ (xs : List AV), (∀ x ∈ xs, x.cells.length = sz) → ∀ (i : Nat) x, xs[i]? = some x → ∀ j, j < sz → (flat xs)[i * sz + j]? = x.cells[j]?
  | [], _, i, x, hi, _, _ => by simp at hi
  | y :: ys, h, 0, x, hi, j, hj => by
    simp at hi; subst hi
    have := h y (List.mem_cons_self ..)
    simp only [flat, Nat.zero_mul, Nat.zero_add]
    rw [List.getElem?_append_left (by omega)]
  | y :: ys, h, i + 1, x, hi, j, hj => by
    have hy := h y (List.mem_cons_self ..)
    have := flat_get ys (fun z hz => h z (List.mem_cons_of_mem _ hz)) i x (by simpa using hi) j hj
    simp only [flat]
    have e : (i + 1) * sz + j = sz + (i * sz + j) := by rw [Nat.succ_mul]; omega
    rw [e, List.getElem?_append_right (by omega), hy, Nat.add_sub_cancel_left]
    exact this

theorem run_indexAt_arr {t e : TypeId} {m : Nat} {ei : TypeInfo} (w : World) (a : Addr) (k : IntKind) (i : Int) (h1 : P.underlying t = some (.array m e)) (h2 : P.info? e = some ei) (h3 : 0 ≤ i) (h4 : i < m) :
    (Instr.indexAt t (.pointer (some a)) (.int k i)).run P w = .ok (.pointer (some (a.add (i.toNat * ei.size)))) w := by
  simp [Instr.indexAt, asIntOf, run_underlying h1, Instr.sureAddr, run_sizeOf h2, h3, h4]

theorem run_indexAt_sl {t e : TypeId} {ei : TypeInfo} (w : World) (a : Addr) (len cap : Nat) (k : IntKind) (i : Int) (h1 : P.underlying t = some (.slice e)) (h2 : P.info? e = some ei) (h3 : 0 ≤ i) (h4 : i < len) :
    (Instr.indexAt t (.slice (some a) len cap) (.int k i)).run P w = .ok (.pointer (some (a.add (i.toNat * ei.size)))) w := by
  simp [Instr.indexAt, asIntOf, run_underlying h1, run_sizeOf h2, h3, h4]

theorem indexAddr_ok {n : Nat} {L : Lay} {w : World} {ts : List TV} {rt : Array Value} (hT : TysOK P C) {t : TypeId} {i : Int} {k : IntKind} {tv tv' : TV} {va : Value} (h : indexAddr C t tv i = some tv') (ha : OR n L w ts rt tv va) :
    ∃ rv, (Instr.indexAt t va (.int k i)).run P w = .ok rv w ∧ OR n L w ts rt tv' rv ∧ ∀ cs, tv' ≠ .bx cs := by
  unfold indexAddr at h
  cases hi : decide (i < 0) with
  | true => rw [hi] at h; cases h
  | false =>
    rw [hi, cond_false rfl] at h
    have h0 : 0 ≤ i := by simpa using hi
    split at h
    · rename_i m e a b c f hti
      obtain ⟨_, d, _, _, hd, _, _, hk, -⟩ := (hT t _ hti).ex
      dsimp only at hk
      cases d <;> simp only [tkOf, reduceCtorEq] at hk
      simp only [TK.array.injEq] at hk
      obtain ⟨rfl, rfl⟩ := hk
      cases hb : (!decide (i < (m : Int))) with
      | true => rw [hb] at h; cases h
      | false =>
        rw [hb, cond_false rfl] at h
        have hlt : i < m := by simpa using hb
        split at h
        · cases h
        · rename_i ei hei
          obtain ⟨eti, _, _, hinfo, _, hsz, _⟩ := (hT _ _ hei).ex
          split at h
          · rename_i s o
            cases h
            obtain ⟨rb, g1, rfl, g2⟩ := ha
            exact ⟨_, run_indexAt_arr w _ k i hd hinfo h0 hlt, ⟨rb, g1, by rw [Addr.plus, hsz], g2⟩, fun _ h => by cases h⟩
          · rename_i b o
            cases h
            cases ha with
            | ptr _ _ a hb ha => exact ⟨_, run_indexAt_arr w a k i hd hinfo h0 hlt, by rw [hsz]; exact (VR.ptr b o a hb ha).ptr_add _, fun _ h => by cases h⟩
          · rename_i cs
            simp only [Option.map_eq_some_iff] at h
            obtain ⟨x, hx, rfl⟩ := h
            cases ha with
            | rop _ rb ro cv k1 ko k2 =>
              exact ⟨_, run_indexAt_arr w _ k i hd hinfo h0 hlt, by rw [Addr.plus, hsz]; exact rop_part hx (.rop _ rb ro cv k1 ko k2), fun _ h => by cases h⟩
          · cases h
    · rename_i e a b c f hti
      obtain ⟨_, d, _, _, hd, _, _, hk, -⟩ := (hT t _ hti).ex
      dsimp only at hk
      cases d <;> simp only [tkOf, reduceCtorEq] at hk
      simp only [TK.slice.injEq] at hk
      subst hk
      split at h
      · cases h
      · rename_i ei hei
        obtain ⟨eti, _, _, hinfo, _, hsz, _⟩ := (hT _ _ hei).ex
        split at h
        · rename_i sz own xs
          cases hb : (sz == ei.size) with
          | false => rw [hb] at h; cases h
          | true =>
            rw [hb, cond_true rfl] at h
            have hse : sz = ei.size := by simpa using hb
            simp only [Option.map_eq_some_iff] at h
            obtain ⟨x, hx, rfl⟩ := h
            have hx := getAt_some hx
            have hxl := (List.getElem?_eq_some_iff.1 hx).1
            cases ha with
            | lit _ _ _ rb ro cap cv hc hs h1 ho h2 hown =>
              refine ⟨_, run_indexAt_sl w _ _ _ k i hd hinfo h0 (by omega), ?_, fun _ h => by cases h⟩
              rw [Addr.plus, hsz]
              have hxs := hs x (List.mem_of_getElem? hx)
              subst hse
              have hfl := flat_length xs hs
              have hle : (i.toNat + 1) * ei.size ≤ xs.length * ei.size := Nat.mul_le_mul_right _ hxl
              rw [Nat.succ_mul] at hle
              refine .rop x rb _ (fun j => cv (i.toNat * ei.size + j)) (fun j hj => ?_) (fun j c hc => ?_) (fun j c hc => ?_)
              · rw [Nat.add_assoc]; exact h1 _ (by omega)
              · have hj : j < ei.size := by have := (List.getElem?_eq_some_iff.1 hc).1; omega
                exact ho _ c (by rw [flat_get xs hs _ x hx j hj]; exact hc)
              · have hj : j < ei.size := by have := (List.getElem?_eq_some_iff.1 hc).1; omega
                exact h2 _ c (by rw [flat_get xs hs _ x hx j hj]; exact hc)
        · rename_i sz b off len
          cases hb : (sz == ei.size && decide (i < (len : Int))) with
          | false => rw [hb] at h; cases h
          | true =>
            rw [hb, cond_true rfl] at h
            cases h
            simp only [Bool.and_eq_true, beq_iff_eq, decide_eq_true_eq] at hb
            obtain ⟨rfl, hlt⟩ := hb
            cases ha with
            | arr _ _ _ _ a cap hbn hc ha =>
              refine ⟨_, run_indexAt_sl w a len cap k i hd hinfo h0 hlt, ?_, fun _ h => by cases h⟩
              rw [hsz]
              exact .ptr b _ _ hbn fun p hp => by rw [(ha p hp).1, Addr.plus, Nat.add_assoc]
        · cases h
    · cases h

end Go.Proofs.YtkocimfdgdegfaaGreatDoor.E

namespace Go.Proofs.YtkocimfdgdegfaaGreatDoor.E
open Go Go.RowKit
variable {P : Program} {C : Cfg}

theorem toList_eq (b : ByteArray) : b.toList = b.data.toList := by rw [ByteArray.toList_eq]

theorem strOf_ok {n : Nat} {L : Lay} {w : World} {l : List UInt8} {v : Value} (h : VR n L w (.str l) v) : ∃ s : ByteArray, v = .string s ∧ s.data.toList = l ∧ s.toList = l ∧ s.size = l.length := by
  cases h with
  | str _ s hs =>
    refine ⟨s, rfl, hs, by rw [toList_eq, hs], ?_⟩
    rw [← hs, Array.length_toList]; rfl

/-- a part of a value -/
theorem part_ok {n : Nat} {L : Lay} {w : World} {t : TypeId} {ti : TI} {cs : List AV} {rc : Array Value} {off : Nat} {x : AV} (hT : TyOK P t ti) (h : part ti cs off = some x) (hr : VR n L w (.agg cs) (.agg rc)) :
    ∃ rv, (Go.part t rc off).run P w = .ok rv w ∧ VR n L w x rv := by
  obtain ⟨i, d, z, hi, hd, hs, _, hk, -⟩ := hT.ex
  cases hr with
  | agg _ _ hl ho hv =>
    cases ha : ti.k.agg with
    | false =>
      have hx := part_one ha h
      have hlt : off < rc.size := by rw [hl]; exact (List.getElem?_eq_some_iff.1 hx).1
      rw [hk] at ha
      refine ⟨rc.getD off default, ?_, hv _ _ hx⟩
      simp [Go.part, run_isAgg hd, ha, hlt, Array.getD]
    | true =>
      obtain ⟨rfl, hlen⟩ := part_agg ha h
      rw [hk] at ha
      refine ⟨.agg (rc.extract off (off + ti.size)), ?_, ?_⟩
      · simp [Go.part, run_isAgg hd, ha, run_sizeOf hi, hs]
      · have hle : off + ti.size ≤ cs.length ∨ ti.size = 0 := by
          have := hlen; simp at this; omega
        refine .agg _ _ ?_ (fun j c hc => ?_) (fun j c hc => ?_)
        · rw [hlen]; simp [Array.size_extract]; rw [hl]; have := hlen; simp at this; omega
        · have hj : j < ti.size := by have := (List.getElem?_eq_some_iff.1 hc).1; omega
          rw [List.getElem?_take_of_lt hj, List.getElem?_drop] at hc
          exact ho _ c hc
        · have hj : j < ti.size := by have := (List.getElem?_eq_some_iff.1 hc).1; omega
          rw [List.getElem?_take_of_lt hj, List.getElem?_drop] at hc
          have h1 := hv _ c hc
          have hlt : off + j < rc.size := by rw [hl]; exact (List.getElem?_eq_some_iff.1 hc).1
          have h2 : j < (rc.extract off (off + ti.size)).size := by simp [Array.size_extract]; omega
          rw [Array.getD_eq_getD_getElem?, Array.getElem?_eq_getElem hlt] at h1
          rw [Array.getD_eq_getD_getElem?, Array.getElem?_eq_getElem h2, Array.getElem_extract]
          exact h1

def EqOK (P : Program) (n : Nat) (L : Lay) (w : World) (d : Nat) (eq : TypeId → AV → AV → Option Bool) : Prop :=
  ∀ t x y b vx vy, eq t x y = some b → VR n L w x vx → VR n L w y vy → ∀ D, d ≤ D → (Op.equalIn D t vx vy).run P w = .ok b w

theorem eqFields_ok {n d : Nat} {L : Lay} {w : World} {eq : TypeId → AV → AV → Option Bool} (hT : TysOK P C) (he : EqOK P n L w d eq) {xs ys : List AV} {rx ry : Array Value} (hx : VR n L w (.agg xs) (.agg rx)) (hy : VR n L w (.agg ys) (.agg ry)) :
    ∀ (fs : List Field) (b : Bool), (fs.all fun f => !(f.name == "_")) = true → eqFields C eq (fs.map fun f => (f.offset, f.type)) xs ys = some b →
      ∀ D, d ≤ D → (Op.eqFields D rx ry fs).run P w = .ok b w
  | [], b, _, h, D, _ => by simp [eqFields] at h; subst h; simp [Op.eqFields]
  | f :: fs, b, hn, h, D, hD => by
    simp only [List.all_cons, Bool.and_eq_true] at hn
    have hname : f.name ≠ "_" := by have := hn.1; simpa using this
    simp only [List.map_cons, eqFields] at h
    split at h
    · cases h
    · rename_i fi hfi
      split at h
      · rename_i a b' ha hb
        obtain ⟨ra, h1, h2⟩ := part_ok (hT _ _ hfi) ha hx
        obtain ⟨rb, h3, h4⟩ := part_ok (hT _ _ hfi) hb hy
        simp only [Op.eqFields, if_pos hname, Sem.run_bind, h1, h3, Result.andThen_ok]
        split at h
        · rename_i hq
          rw [he _ _ _ _ _ _ hq h2 h4 D hD]
          simp only [Result.andThen_ok, Bool.not_true, Bool.false_eq_true, if_false]
          exact eqFields_ok hT he hx hy fs b hn.2 h D hD
        · rename_i hq
          cases h
          rw [he _ _ _ _ _ _ hq h2 h4 D hD]
          simp
        · cases h
      · cases h

/-- the elements of two arrays, from i on -/
theorem eqElems_ok {n d : Nat} {L : Lay} {w : World} {eq : TypeId → AV → AV → Option Bool} {e : TypeId} {ei : TI} (hT : TyOK P e ei) (he : EqOK P n L w d eq) {rx ry : Array Value} {xs0 ys0 : List AV}
    (hx : VR n L w (.agg xs0) (.agg rx)) (hy : VR n L w (.agg ys0) (.agg ry)) : ∀ (k i : Nat) (xs ys : List AV) (b : Bool), xs = xs0.drop (i * ei.size) → ys = ys0.drop (i * ei.size) →
      eqElems ei (eq e) k xs ys = some b → ∀ D, d ≤ D →
      (forIn (m := Sem) (List.range' i k) ((none, ()) : Option Bool × Unit) (fun i _ => do
        if (!(← Op.equalIn D e (← Go.part e rx (i * ei.size)) (← Go.part e ry (i * ei.size)))) = true then pure (ForInStep.done (some false, ())) else pure (ForInStep.yield (none, ())))).run P w =
      .ok ((if b then none else some false), ()) w := by
  intro k
  induction k with
  | zero => intro i xs ys b _ _ h D _; simp [eqElems] at h; subst h; simp
  | succ k ih =>
    intro i xs ys b hxs hys h D hD
    simp only [eqElems] at h
    have conv : ∀ (zs0 : List AV) x, part ei (zs0.drop (i * ei.size)) 0 = some x → part ei zs0 (i * ei.size) = some x := fun zs0 x hp => by
      unfold part at hp ⊢
      simpa [getAt_eq] using hp
    split at h
    · rename_i a b' ha hb
      rw [hxs] at ha; rw [hys] at hb
      obtain ⟨ra, h1, h2⟩ := part_ok hT (conv _ _ ha) hx
      obtain ⟨rb, h3, h4⟩ := part_ok hT (conv _ _ hb) hy
      simp only [List.range'_succ, List.forIn_cons, Sem.run_bind, h1, h3, Result.andThen_ok]
      split at h
      · rename_i hq
        rw [he _ _ _ _ _ _ hq h2 h4 D hD]
        simp only [Result.andThen_ok, Bool.not_true, Bool.false_eq_true, if_false, Sem.run_pure]
        exact ih (i + 1) _ _ b (by rw [hxs, List.drop_drop, Nat.succ_mul]) (by rw [hys, List.drop_drop, Nat.succ_mul]) h D hD
      · rename_i hq
        cases h
        rw [he _ _ _ _ _ _ hq h2 h4 D hD]
        simp
      · cases h
    · cases h

set_option maxHeartbeats 1000000 in
theorem eqAt_ok {n : Nat} {L : Lay} {w : World} (hT : TysOK P C) : ∀ d, EqOK P n L w d (eqAt C d) := by
  intro d
  induction d with
  | zero => intro t x y b vx vy h; cases h
  | succ d ih =>
    intro t x y b vx vy h hx hy D hD
    obtain ⟨D, rfl⟩ : ∃ D', D = D' + 1 := ⟨D - 1, by omega⟩
    have hD : d ≤ D := by omega
    unfold eqAt at h
    split at h
    · cases h
    · rename_i ti hti
      obtain ⟨i, dd, z, hi, hd, hs, _, hk, _, _, _, _, heq, -⟩ := (hT _ _ hti).ex
      split at h
      all_goals try (cases h; done)
      case h_2 =>
        rename_i k a k' b' hkk
        cases hb : decide (k = k') with
        | false => rw [hb] at h; cases h
        | true =>
          rw [hb, cond_true rfl] at h
          cases h
          rw [hkk] at hk
          cases dd <;> simp only [tkOf, reduceCtorEq] at hk
          have : k = k' := by simpa using hb
          subst this
          cases hx; cases hy
          simp [Op.equalIn, run_underlying hd]
      case h_3 =>
        rename_i a b' hkk
        cases h
        rw [hkk] at hk
        cases dd <;> simp only [tkOf, reduceCtorEq] at hk
        obtain ⟨s, rfl, _, h1, _⟩ := strOf_ok hx
        obtain ⟨s', rfl, _, h2, _⟩ := strOf_ok hy
        rw [run_equalIn_string w D t s s' hd, h1, h2]
      case h_20 =>
        rename_i fs xs ys hkk
        cases hb : ti.eq with
        | false => rw [hb] at h; cases h
        | true =>
          rw [hb, cond_true rfl] at h
          rw [hkk] at hk
          cases dd <;> simp only [tkOf, reduceCtorEq] at hk
          rename_i fields
          simp only [TK.struct.injEq] at hk
          rw [hb] at heq
          have heq := heq.symm
          simp only [eqPlain, Bool.and_eq_true, Bool.not_eq_true'] at heq
          have heq := heq.1
          have hagg : ∃ rx ry, vx = .agg rx ∧ vy = .agg ry := by cases hx; cases hy; exact ⟨_, _, rfl, rfl⟩
          obtain ⟨rx, ry, rfl, rfl⟩ := hagg
          have hfo : P.fieldsOf t = fields := by simp [Program.fieldsOf, hd]
          rw [run_equalIn_struct w D t rx ry (by rw [hfo]; exact hd) heq.1.1, hfo]
          subst hk
          exact eqFields_ok hT ih hx hy fields.toList b heq.2 h D hD
      case h_21 =>
        rename_i m e xs ys hkk
        cases hb : ti.eq with
        | false => rw [hb] at h; cases h
        | true =>
          rw [hb] at h
          simp only [Bool.not_true, cond_false] at h
          rw [hkk] at hk
          cases dd <;> simp only [tkOf, reduceCtorEq] at hk
          simp only [TK.array.injEq] at hk
          obtain ⟨rfl, rfl⟩ := hk
          split at h
          · rename_i ei hei
            have hagg : ∃ rx ry, vx = .agg rx ∧ vy = .agg ry := by cases hx; cases hy; exact ⟨_, _, rfl, rfl⟩
            obtain ⟨rx, ry, rfl, rfl⟩ := hagg
            obtain ⟨ei', _, _, hinfo, _, hsz, _⟩ := (hT _ _ hei).ex
            have := eqElems_ok (hT _ _ hei) ih hx hy m 0 xs ys b (by simp) (by simp) h D hD
            simp only [Op.equalIn, Sem.run_bind, run_underlying hd, Result.andThen_ok, run_sizeOf hinfo, hsz]
            rw [Std.Legacy.Range.forIn_eq_forIn_range']
            have hsize : List.range' [:m].start [:m].size [:m].step = List.range' 0 m := by simp [Std.Legacy.Range.size]
            rw [hsize, this]
            cases b <;> rfl
          · cases h
      case h_22 =>
        rename_i a u a' v hkk
        rw [hkk] at hk
        cases dd <;> simp only [tkOf, reduceCtorEq] at hk
        cases hx with | iface _ _ vu hu => ?_
        cases hy with | iface _ _ vv hv => ?_
        cases hb : Nat.beq a a' with
        | false =>
          rw [hb] at h
          simp only [Bool.not_false, cond_true] at h
          cases h
          have : a ≠ a' := fun e => by subst e; simp at hb
          simp [Op.equalIn, run_underlying hd, this]
        | true =>
          rw [hb] at h
          simp only [Bool.not_true, cond_false] at h
          obtain rfl := Nat.eq_of_beq_eq_true hb
          split at h
          · rename_i ai hai
            obtain ⟨i', d', _, hi', hd', _, _, _, _, _, _, _, heq', -⟩ := (hT _ _ hai).ex
            cases he : ai.eq with
            | false => rw [he] at h; cases h
            | true =>
              rw [he, cond_true rfl] at h
              rw [he] at heq'
              have hcomp : i'.comparable = true := (Bool.and_eq_true_iff.1 heq'.symm).2
              have := ih _ _ _ _ _ _ h hu hv D hD
              simp [Op.equalIn, run_underlying hd, run_typeInfo hi', hcomp, this]
          · cases h
      all_goals (rename_i hkk; cases h; rw [hkk] at hk; cases dd <;> simp only [tkOf, reduceCtorEq] at hk)
      all_goals (cases hx <;> cases hy <;> simp [Op.equalIn, run_underlying hd])

end Go.Proofs.YtkocimfdgdegfaaGreatDoor.E

namespace Go.Proofs.YtkocimfdgdegfaaGreatDoor.E
open Go Go.RowKit
variable {P : Program} {C : Cfg}

theorem arith_ok {n : Nat} {L : Lay} {w : World} {op : BinOp} {k : IntKind} {a b : Int} {x : AV} {t : TypeId} (h : arith op k a b = some x) (h1 : op ≠ .shl) (h2 : op ≠ .shr) :
    ∃ rv, (binOp op t (.int k a) (.int k b)).run P w = .ok rv w ∧ VR n L w x rv := by
  cases op <;> simp only [arith, Option.some.injEq, reduceCtorEq] at h
  case add => subst h; exact ⟨_, by simp [binOp, Op.intArith], .int _ _⟩
  case sub => subst h; exact ⟨_, by simp [binOp, Op.intArith], .int _ _⟩
  case mul => subst h; exact ⟨_, by simp [binOp, Op.intArith], .int _ _⟩
  case quo =>
    cases hb : (b == 0) with
    | true => rw [hb] at h; cases h
    | false =>
      rw [hb, cond_false rfl] at h; cases h
      have : b ≠ 0 := by simpa using hb
      exact ⟨_, by simp [binOp, Op.intDiv, this], .int _ _⟩
  case rem =>
    cases hb : (b == 0) with
    | true => rw [hb] at h; cases h
    | false =>
      rw [hb, cond_false rfl] at h; cases h
      have : b ≠ 0 := by simpa using hb
      exact ⟨_, by simp [binOp, Op.intDiv, this], .int _ _⟩
  case and => subst h; exact ⟨_, by simp [binOp, Op.intBits], .int _ _⟩
  case or => subst h; exact ⟨_, by simp [binOp, Op.intBits], .int _ _⟩
  case xor => subst h; exact ⟨_, by simp [binOp, Op.intBits], .int _ _⟩
  case andNot => subst h; exact ⟨_, by simp [binOp, Op.intBits], .int _ _⟩
  all_goals (subst h; exact ⟨_, by simp [binOp, Op.intCmp], .bool _⟩)

theorem shiftE_ok {n : Nat} {L : Lay} {w : World} {op : BinOp} {k k' : IntKind} {a b : Int} {x : AV} {t : TypeId} (h : shiftE op k a b = some x) :
    ∃ rv, (binOp op t (.int k a) (.int k' b)).run P w = .ok rv w ∧ VR n L w x rv := by
  unfold shiftE at h
  cases hb : decide (b < 0) with
  | true => rw [hb] at h; cases h
  | false =>
    rw [hb, cond_false rfl] at h
    have h0 : ¬ b < 0 := by simpa using hb
    cases op <;> simp only [Option.some.injEq, reduceCtorEq] at h
    · subst h; exact ⟨_, by simp only [binOp, Op.shift, if_neg h0]; rfl, .int _ _⟩
    · subst h; exact ⟨_, by simp only [binOp, Op.shift, if_neg h0]; rfl, .int _ _⟩

theorem strOp_ok {n : Nat} {L : Lay} {w : World} {op : BinOp} {a b : List UInt8} {x : AV} {t : TypeId} {s s' : ByteArray} (h : strOp op a b = some x) (hs : s.data.toList = a) (hs' : s'.data.toList = b) :
    ∃ rv, (binOp op t (.string s) (.string s')).run P w = .ok rv w ∧ VR n L w x rv := by
  have e1 : s.toList = a := by rw [toList_eq, hs]
  have e2 : s'.toList = b := by rw [toList_eq, hs']
  have z1 : s.size = a.length := by rw [← hs, Array.length_toList]; rfl
  have z2 : s'.size = b.length := by rw [← hs', Array.length_toList]; rfl
  have hbin : binOp op t (.string s) (.string s') = Op.stringOp op s s' := by cases op <;> rfl
  rw [hbin]
  cases op <;> simp only [strOp, Option.some.injEq, reduceCtorEq] at h
  case add =>
    cases hb : decide (a.length + b.length ≤ 9223372036854775807) with
    | false => rw [hb] at h; cases h
    | true =>
      rw [hb, cond_true rfl] at h; cases h
      have hle : a.length + b.length ≤ 9223372036854775807 := by simpa using hb
      have : ¬ ((s.size + s'.size : Nat) : Int) > IntKind.i64.max := by
        rw [z1, z2]; show ¬ ((a.length + b.length : Nat) : Int) > 9223372036854775807; omega
      refine ⟨.string (s ++ s'), by simp only [Op.stringOp, if_neg this]; rfl, .str _ _ ?_⟩
      rw [← hs, ← hs']; simp
  all_goals (subst h; exact ⟨_, by simp only [Op.stringOp, e1, e2]; rfl, .bool _⟩)

theorem eqAt_agg {d : Nat} {t : TypeId} {xs ys : List AV} {b : Bool} (h : eqAt C d t (.agg xs) (.agg ys) = some b) : ∃ ti, C.ty t = some ti ∧ ti.eq = true ∧ ti.k.agg = true := by
  cases d with
  | zero => cases h
  | succ d =>
    unfold eqAt at h
    split at h
    · cases h
    · rename_i ti hti
      refine ⟨ti, hti, ?_⟩
      cases hk : ti.k <;> simp only [hk, reduceCtorEq] at h
      all_goals (cases he : ti.eq with
        | true => exact ⟨rfl, rfl⟩
        | false => rw [he] at h; simp at h)

theorem eqPlain_guard {t : TypeId} {d : TypeDesc} (h : eqPlain P t d = true) (ha : (tkOf d).agg = true) : P.eqGuardType P.depth t = false := by
  cases d <;> simp only [tkOf, TK.agg, Bool.false_eq_true] at ha
  · simp only [eqPlain, Bool.not_eq_true'] at h; exact h
  · simp only [eqPlain, Bool.and_eq_true, Bool.not_eq_true'] at h; exact h.1.2

theorem binE_eq_ok {n : Nat} {L : Lay} {w : World} (hT : TysOK P C) {t : TypeId} {a b : AV} {va vb : Value} {r : Bool} {ox oy : Operand} (hc : (isCst ox || isCst oy || !(isNilI a && isNilI b)) = true)
    (h : eqAt C 32 t a b = some r) (ha : VR n L w a va) (hb : VR n L w b vb) (op : BinOp) (hop : op = .eql ∨ op = .neq) :
    (eqGuard op t ox oy va vb).run P w = .ok () w ∧ (Op.equal t va vb).run P w = .ok r w := by
  refine ⟨?_, eqAt_ok hT 32 t a b r va vb h ha hb _ (by decide)⟩
  cases ha
  case nilI =>
    cases hb
    case nilI =>
      have hcst : (isCst ox || isCst oy) = true := by simpa [isNilI] using hc
      clear hc
      rcases hop with rfl | rfl <;> cases ox <;> cases oy <;> first | (simp [isCst] at hcst; done) | simp [eqGuard]
    all_goals (rcases hop with rfl | rfl <;> simp [eqGuard])
  case agg xs rx hl ho hv =>
    cases hb
    case agg ys ry hl' ho' hv' =>
      obtain ⟨ti, hti, he, hagg⟩ := eqAt_agg h
      obtain ⟨i, d, z, hi, hd, hs, _, hk, _, _, _, _, heq, -⟩ := (hT _ _ hti).ex
      rw [he] at heq; rw [hk] at hagg
      exact run_eqGuard_agg w op t ox oy rx ry (eqPlain_guard (Bool.and_eq_true_iff.1 heq.symm).1 hagg)
    all_goals (rcases hop with rfl | rfl <;> simp [eqGuard])
  all_goals (rcases hop with rfl | rfl <;> simp [eqGuard])

theorem binE_ok {n : Nat} {L : Lay} {w : World} (hT : TysOK P C) {op : BinOp} {t : TypeId} {a b x : AV} {va vb : Value} {ox oy : Operand} (h : binE C op t (isCst ox || isCst oy) a b = some x) (ha : VR n L w a va) (hb : VR n L w b vb) :
    ∃ rv, (do eqGuard op t ox oy va vb; binOp op t va vb).run P w = .ok rv w ∧ VR n L w x rv := by
  have guard : ∀ s, (eqGuard op t ox oy va vb).run P w = .ok () w → (∃ rv, s.run P w = .ok rv w ∧ VR n L w x rv) → ∃ rv, (do eqGuard op t ox oy va vb; s).run P w = .ok rv w ∧ VR n L w x rv := fun s hg ⟨rv, h1, h2⟩ =>
    ⟨rv, by simp only [Sem.run_bind, hg, Result.andThen_ok]; exact h1, h2⟩
  unfold binE at h
  split at h
  · rename_i k a k' b
    cases ha; cases hb
    refine guard _ (by cases op <;> simp [eqGuard]) ?_
    split at h
    · exact shiftE_ok h
    · exact shiftE_ok h
    · rename_i h1 h2
      cases hb : decide (k = k') with
      | false => rw [hb] at h; cases h
      | true =>
        rw [hb, cond_true rfl] at h
        have : k = k' := by simpa using hb
        subst this
        exact arith_ok h (fun e => h1 e) (fun e => h2 e)
  · cases ha with
    | str _ s hs => cases hb with
      | str _ s' hs' => exact guard _ (by cases op <;> simp [eqGuard]) (strOp_ok h hs hs')
  · rename_i hni hns
    have hbin : ∀ op, (op = .eql ∨ op = .neq) → binOp op t va vb = (do let r ← Op.equal t va vb; pure (.bool (if op = .eql then r else !r))) := by
      intro op hop
      cases ha
      case int k i =>
        cases hb
        case int k' i' => exact absurd rfl (hni _ _ _ _ rfl)
        all_goals (rcases hop with rfl | rfl <;> rfl)
      case str l s hs =>
        cases hb
        case str l' s' hs' => exact absurd rfl (hns _ _ rfl)
        all_goals (rcases hop with rfl | rfl <;> rfl)
      all_goals (rcases hop with rfl | rfl <;> (cases hb <;> rfl))
    split at h
    · cases hc : (isCst ox || isCst oy || !(isNilI a && isNilI b)) with
      | false => rw [hc] at h; cases h
      | true =>
        rw [hc, cond_true rfl] at h
        simp only [Option.map_eq_some_iff] at h
        obtain ⟨r, h1, rfl⟩ := h
        obtain ⟨h2, h3⟩ := binE_eq_ok hT hc h1 ha hb .eql (.inl rfl)
        exact guard _ h2 ⟨.bool r, by rw [hbin _ (.inl rfl)]; simp [h3], .bool _⟩
    · cases hc : (isCst ox || isCst oy || !(isNilI a && isNilI b)) with
      | false => rw [hc] at h; cases h
      | true =>
        rw [hc, cond_true rfl] at h
        simp only [Option.map_eq_some_iff] at h
        obtain ⟨r, h1, rfl⟩ := h
        obtain ⟨h2, h3⟩ := binE_eq_ok hT hc h1 ha hb .neq (.inr rfl)
        exact guard _ h2 ⟨.bool !r, by rw [hbin _ (.inr rfl)]; simp [h3], .bool _⟩
    · cases h

theorem unE_ok {n : Nat} {L : Lay} {w : World} {op : UnOp} {a x : AV} {va : Value} (h : unE op a = some x) (ha : VR n L w a va) : ∃ rv, (Op.unary op va).run P w = .ok rv w ∧ VR n L w x rv := by
  unfold unE at h
  split at h
  · cases h; cases ha; exact ⟨_, by simp only [Op.unary, Op.intArith]; rfl, .int _ _⟩
  · rename_i k i
    cases ha
    simp only [arith, Option.some.injEq] at h
    subst h
    refine ⟨_, by simp only [Op.unary, Op.intBits]; rfl, ?_⟩
    have : (bif k.signed then (-1 : Int) else k.max) = if k.signed = true then -1 else k.max := by cases k.signed <;> rfl
    rw [this]
    exact .int _ _
  · cases h; cases ha; exact ⟨_, by simp only [Op.unary]; rfl, .bool _⟩
  · cases h

theorem indexE_ok {n : Nat} {L : Lay} {w : World} (hT : TysOK P C) {t : TypeId} {i : Int} {k : IntKind} {a x : AV} {va : Value} (h : indexE C t a i = some x) (ha : VR n L w a va) :
    ∃ rv, (Instr.index t va (.int k i)).run P w = .ok rv w ∧ VR n L w x rv := by
  unfold indexE at h
  cases hi : decide (i < 0) with
  | true => rw [hi] at h; cases h
  | false =>
    rw [hi, cond_false rfl] at h
    have h0 : 0 ≤ i := by simpa using hi
    split at h
    · rename_i m e _ _ _ _ cs hti
      obtain ⟨_, d, _, _, hd, _, _, hk, -⟩ := (hT t _ hti).ex
      dsimp only at hk
      cases d <;> simp only [tkOf, reduceCtorEq] at hk
      simp only [TK.array.injEq] at hk
      obtain ⟨rfl, rfl⟩ := hk
      cases hb : (!decide (i < (m : Int))) with
      | true => rw [hb] at h; cases h
      | false =>
        rw [hb, cond_false rfl] at h
        have hlt : i < m := by simpa using hb
        split at h
        · cases h
        · rename_i ei hei
          obtain ⟨eti, _, _, hinfo, _, hsz, _⟩ := (hT _ _ hei).ex
          cases ha with
          | agg _ rc hl ho hv =>
            obtain ⟨rv, h1, h2⟩ := part_ok (hT _ _ hei) h (VR.agg cs rc hl ho hv)
            exact ⟨rv, by simp [Instr.index, asIntOf, run_underlying hd, h0, hlt, run_sizeOf hinfo, hsz, h1], h2⟩
    · rename_i _ _ _ _ s hti
      obtain ⟨_, d, _, _, hd, _, _, hk, -⟩ := (hT t _ hti).ex
      dsimp only at hk
      cases d <;> simp only [tkOf, reduceCtorEq] at hk
      simp only [Option.map_eq_some_iff] at h
      obtain ⟨c, hc, rfl⟩ := h
      have hc := getAt_some hc
      cases ha with
      | str _ b hb =>
        have hlt : i.toNat < b.size := by
          have := (List.getElem?_eq_some_iff.1 hc).1
          rw [← hb, Array.length_toList] at this; exact this
        have hget : b[i.toNat]? = some c := by
          rw [← hb] at hc
          rw [Array.getElem?_toList] at hc
          rw [getElem?_pos b i.toNat hlt]
          rw [← hc]
          exact (Array.getElem?_eq_getElem (xs := b.data) hlt).symm
        exact ⟨_, by simp [Instr.index, asIntOf, run_underlying hd, h0, hget], .int _ _⟩
    · cases h

end Go.Proofs.YtkocimfdgdegfaaGreatDoor.E

namespace Go.Proofs.YtkocimfdgdegfaaGreatDoor.E
open Go Go.RowKit
variable {P : Program} {C : Cfg}

theorem foldSet (off : Nat) : ∀ (l : List Value) (s : Nat) (cs : Array Value), off + s + l.length ≤ cs.size →
    ((l.zipIdx s).foldl (fun (cs : Array Value) (p : Value × Nat) => cs.setIfInBounds (off + p.2) p.1) cs).size = cs.size ∧
    ∀ j, ((l.zipIdx s).foldl (fun (cs : Array Value) (p : Value × Nat) => cs.setIfInBounds (off + p.2) p.1) cs)[j]? = if off + s ≤ j ∧ j < off + s + l.length then l[j - (off + s)]? else cs[j]?
  | [], s, cs, _ => ⟨rfl, fun j => by rw [if_neg (by simp)]; rfl⟩
  | v :: l, s, cs, h => by
    simp only [List.length_cons] at h
    obtain ⟨h1, h2⟩ := foldSet off l (s + 1) (cs.setIfInBounds (off + s) v) (by simp; omega)
    simp only [List.zipIdx_cons, List.foldl_cons]
    refine ⟨by rw [h1]; simp, fun j => ?_⟩
    rw [h2]
    by_cases hj : j = off + s
    · subst hj
      rw [if_neg (by omega), if_pos (by simp), Array.getElem?_setIfInBounds_self_of_lt (by omega)]
      simp
    · rw [Array.getElem?_setIfInBounds_ne (by omega)]
      by_cases hj2 : off + (s + 1) ≤ j ∧ j < off + (s + 1) + l.length
      · rw [if_pos hj2, if_pos (by simp; omega)]
        obtain ⟨k, hk⟩ : ∃ k, j - (off + s) = k + 1 := ⟨j - (off + s) - 1, by omega⟩
        rw [hk, List.getElem?_cons_succ]
        congr 1; omega
      · rw [if_neg hj2, if_neg (by simp; omega)]

theorem zipFold (off : Nat) (v cs : Array Value) : v.zipIdx.foldl (fun (cs : Array Value) (x : Value × Nat) => match x with | (c, j) => cs.setIfInBounds (off + j) c) cs =
    ((v.toList.zipIdx 0).foldl (fun (cs : Array Value) (p : Value × Nat) => cs.setIfInBounds (off + p.2) p.1) cs) := by
  rw [← Array.foldl_toList, Array.toList_zipIdx]

/-- cells, one by one, and each of one cell -/
structure ACR (n : Nat) (L : Lay) (w : World) (cs : List AV) (rc : Array Value) : Prop where
  len : rc.size = cs.length
  one : ∀ (i : Nat) x, cs[i]? = some x → x.one = true
  vr : ∀ (i : Nat) x, cs[i]? = some x → VR n L w x (rc.getD i default)

theorem ACR.splice {n : Nat} {L : Lay} {w : World} {cs : List AV} {rc : Array Value} (h : ACR n L w cs rc) {x : AV} {v : Value} {off : Nat} (hx : VR n L w x v) (hn : x.noTup = true) (hle : off + x.cells.length ≤ cs.length) :
    ACR n L w (splice cs off x.cells) (v.cells.zipIdx.foldl (fun (cs : Array Value) (x : Value × Nat) => match x with | (c, j) => cs.setIfInBounds (off + j) c) rc) := by
  have hcr := hx.cells
  have hlen : v.cells.toList.length = x.cells.length := hcr.1
  obtain ⟨h1, h2⟩ := foldSet off v.cells.toList 0 rc (by rw [h.len]; omega)
  rw [zipFold]
  refine ⟨by rw [h1, h.len, splice_length hle], fun i y hy => ?_, fun i y hy => ?_⟩
  · rw [splice_get hle] at hy
    split at hy
    · exact hx.ones hn _ _ hy
    · exact h.one _ _ hy
  · rw [splice_get hle] at hy
    rw [Array.getD_eq_getD_getElem?, h2]
    split at hy
    · rename_i hin
      rw [if_pos (by omega)]
      obtain ⟨u, hu⟩ : ∃ u, v.cells.toList[i - off]? = some u := ⟨_, List.getElem?_eq_getElem (by omega)⟩
      have e : i - (off + 0) = i - off := by omega
      rw [e, hu]
      exact hcr.2 _ _ _ hy hu
    · rename_i hout
      rw [if_neg (by omega)]
      have := h.vr _ _ hy
      rwa [Array.getD_eq_getD_getElem?] at this

theorem zero_ok (n : Nat) (L : Lay) (w : World) {z : Value} {zs : List AV} (h : mapO (ofConst 8) z.cells.toList = some zs) (ho : allOne zs = true) : ACR n L w zs z.cells := by
  obtain ⟨hl, hi⟩ := mapO_eq _ _ _ h
  refine ⟨by simp [hl], allOne_mem ho, fun i x hx => ?_⟩
  have hlt : i < z.cells.size := by have := (List.getElem?_eq_some_iff.1 hx).1; simpa [hl] using this
  obtain ⟨y, hy, hr⟩ := hi i z.cells[i] (by simp [hlt])
  have : x = y := by rw [hx] at hr; exact Option.some.inj hr
  subst this
  have := ofConst_ok L n w _ _ _ hy
  simpa [Array.getD, hlt] using this

/-- the parts of a literal -/
def PR (n : Nat) (L : Lay) (w : World) : List (Nat × AV) → List (Nat × Value) → Prop
  | [], [] => True
  | (i, x) :: ps, (j, v) :: rs => i = j ∧ VR n L w x v ∧ PR n L w ps rs
  | _, _ => False

theorem valParts_ok {B base : Nat} {w0 w : World} {L : Lay} {hp : List Blk} {ts : List TV} {rt : Array Value} {ds : List Deferred} (hI : Inv C.glob B w0 L w hp) (hF : FR hp.length L w base ts rt) :
    ∀ (ps : List (Nat × Operand)) (r : List (Nat × AV)), valParts C ts ps = some r → PR hp.length L w r (ps.map fun (i, x) => (i, ({ tmps := rt, defers := ds } : Act).eval x))
  | [], r, h => by simp [valParts] at h; subst h; trivial
  | (i, x) :: ps, r, h => by
    simp only [valParts] at h
    split at h
    · rename_i a ha
      split at h
      · rename_i r' hr
        cases h
        exact ⟨rfl, opv_ok hI hF ha, valParts_ok hI hF ps r' hr⟩
      · cases h
    · cases h

theorem fill_ok {n : Nat} {L : Lay} {w : World} (ti : TI) (place : Nat → Option (Nat × Nat))
    (hpl : ∀ i off sz, (match ti.k with
      | .struct fs => (match getAt fs i with
        | some (off, ft) => (C.ty ft).map fun fi => (off, fi.size)
        | none => none)
      | .array _ e => (C.ty e).map fun ei => (i * ei.size, ei.size)
      | _ => none) = some (off, sz) → place i = some (off, sz)) :
    ∀ (ps : List (Nat × AV)) (rs : List (Nat × Value)) (cs r : List AV) (rc : Array Value), PR n L w ps rs → ACR n L w cs rc → fill ti C cs ps = some r →
      ∃ rr, Instr.fill place rc rs = some rr ∧ ACR n L w r rr
  | [], [], cs, r, rc, _, hc, h => by simp [fill] at h; subst h; exact ⟨rc, rfl, hc⟩
  | [], _ :: _, _, _, _, hp, _, _ => hp.elim
  | _ :: _, [], _, _, _, hp, _, _ => by cases hp
  | (i, x) :: ps, (j, v) :: rs, cs, r, rc, hp, hc, h => by
    obtain ⟨rfl, hx, hp⟩ := hp
    simp only [fill] at h
    split at h
    · rename_i off sz hq
      have hpi := hpl i off sz hq
      cases hb : (x.cells.length == sz && x.noTup && decide (off + sz ≤ cs.length)) with
      | false => rw [hb] at h; cases h
      | true =>
        rw [hb, cond_true rfl] at h
        simp only [Bool.and_eq_true, beq_iff_eq, decide_eq_true_eq] at hb
        obtain ⟨⟨h1, h2⟩, h3⟩ := hb
        have hvs : v.cells.size = sz := by have := hx.cells.1; simp at this; omega
        obtain ⟨rr, h4, h5⟩ := fill_ok ti place hpl ps rs _ r _ hp (hc.splice hx h2 (by omega)) h
        refine ⟨rr, ?_, h5⟩
        simp only [Instr.fill, hpi]
        have hle : off + v.cells.size ≤ rc.size := by rw [hc.len, hvs]; exact h3
        rw [if_neg (by simp only [Bool.or_eq_true, decide_eq_true_eq, not_or]; omega)]
        exact h4
    · cases h

theorem run_mapM_list {α β : Type} {w : World} (g : α → Sem β) (f : α → β) : ∀ (l : List α), (∀ a ∈ l, (g a).run P w = .ok (f a) w) → (l.mapM g).run P w = .ok (l.map f) w
  | [], _ => by simp
  | a :: l, h => by
    simp only [List.mapM_cons, Sem.run_bind, h a (List.mem_cons_self ..), Result.andThen_ok, run_mapM_list g f l fun b hb => h b (List.mem_cons_of_mem _ hb)]
    simp

theorem build_ok {B base : Nat} {w0 w : World} {L : Lay} {hp : List Blk} {ts : List TV} {rt : Array Value} {ds : List Deferred} (hT : TysOK P C) (hI : Inv C.glob B w0 L w hp) (hF : FR hp.length L w base ts rt)
    {t : TypeId} {ti : TI} {ps : Array (Nat × Operand)} {vs : List (Nat × AV)} {cs : List AV} (hti : C.ty t = some ti) (hagg : ti.k.agg = true) (hv : valParts C ts ps.toList = some vs) (h : fill ti C ti.zero vs = some cs) :
    ∃ rv, (Instr.build t (ps.map fun (i, x) => (i, ({ tmps := rt, defers := ds } : Act).eval x))).run P w = .ok rv w ∧ VR hp.length L w (.agg cs) rv := by
  obtain ⟨i, d, z, hi, hd, hs, _, hk, hz, hzs, hzl, ho, _, hkn⟩ := (hT t ti hti).ex
  have hpr := valParts_ok (ds := ds) hI hF ps.toList vs hv
  have hz0 := zero_ok hp.length L w hzs ho
  cases d with
  | struct fs =>
    have hkn : ∀ f ∈ fs.toList, ∃ fi, P.info? f.type = some fi := by
      simp only [partsKnown, List.all_eq_true] at hkn
      exact fun f hf => Option.isSome_iff_exists.1 (hkn f hf)
    let sz : Field → Nat := fun f => ((P.info? f.type).map (·.size)).getD 0
    have hplaces : (fs.mapM fun f => (do pure (f.offset, ← Go.sizeOf f.type) : Sem (Nat × Nat))).run P w = .ok (fs.map fun f => (f.offset, sz f)) w := by
      have := run_mapM_list (P := P) (w := w) (fun f : Field => (do pure (f.offset, ← Go.sizeOf f.type) : Sem (Nat × Nat))) (fun f => (f.offset, sz f)) fs.toList (fun f hf => by
        obtain ⟨fi, hfi⟩ := hkn f hf
        simp [run_sizeOf hfi, sz, hfi])
      rw [Array.mapM_eq_mapM_toList, Sem.run_map, this]
      exact congrArg (fun a => Result.ok a w) (Array.ext' (by simp))
    obtain ⟨rr, h1, h2⟩ := fill_ok (n := hp.length) (L := L) (w := w) ti (fun k => (fs.map fun f => (f.offset, sz f))[k]?) (fun k off s hq => by
      rw [hk] at hq
      simp only [tkOf, getAt_eq, List.getElem?_map] at hq
      cases hf : fs.toList[k]? with
      | none => rw [hf] at hq; cases hq
      | some f =>
        rw [hf] at hq
        simp only [Option.map_some, Option.map_eq_some_iff, Prod.mk.injEq] at hq
        obtain ⟨fti, g1, g2, g3⟩ := hq
        obtain ⟨fi, _, _, g4, _, g5, _⟩ := (hT _ _ g1).ex
        rw [Array.getElem?_toList] at hf
        simp [hf, sz, g4, g2]
        omega) vs _ ti.zero cs z.cells hpr hz0 h
    refine ⟨.agg rr, ?_, .agg _ _ h2.len h2.one h2.vr⟩
    simp only [Instr.build, Sem.run_bind, run_zeroValue hi hz, Result.andThen_ok, run_underlying hd, hplaces]
    have : (ps.map fun (i, x) => (i, ({ tmps := rt, defers := ds } : Act).eval x)).toList = ps.toList.map fun (i, x) => (i, ({ tmps := rt, defers := ds } : Act).eval x) := by simp
    rw [this, h1]
    rfl
  | array m e =>
    simp only [partsKnown] at hkn
    obtain ⟨ei, hei⟩ := Option.isSome_iff_exists.1 hkn
    obtain ⟨rr, h1, h2⟩ := fill_ok (n := hp.length) (L := L) (w := w) ti (fun k => some (k * ei.size, ei.size)) (fun k off s hq => by
      rw [hk] at hq
      simp only [tkOf, Option.map_eq_some_iff, Prod.mk.injEq] at hq
      obtain ⟨eti, g1, g2, g3⟩ := hq
      obtain ⟨ei', _, _, g4, _, g5, _⟩ := (hT _ _ g1).ex
      rw [hei] at g4; cases g4
      simp; rw [g5]; exact ⟨g2, g3⟩) vs _ ti.zero cs z.cells hpr hz0 h
    refine ⟨.agg rr, ?_, .agg _ _ h2.len h2.one h2.vr⟩
    simp only [Instr.build, Sem.run_bind, run_zeroValue hi hz, Result.andThen_ok, run_underlying hd, run_sizeOf hei]
    have : (ps.map fun (i, x) => (i, ({ tmps := rt, defers := ds } : Act).eval x)).toList = ps.toList.map fun (i, x) => (i, ({ tmps := rt, defers := ds } : Act).eval x) := by simp
    rw [this, h1]
    rfl
  | _ => rw [hk] at hagg; simp [tkOf, TK.agg] at hagg

end Go.Proofs.YtkocimfdgdegfaaGreatDoor.E

namespace Go.Proofs.YtkocimfdgdegfaaGreatDoor.E
open Go Go.RowKit
variable {P : Program} {C : Cfg}

theorem run_newRow {e : TypeId} {c : Array Value} (w : World) : (newRow e c).run P w = .ok ⟨w.heap.size, 0, none⟩ (w.alloc (.cells c e)) := by
  simp [newRow]

theorem mem_sizes {sz : Nat} : ∀ {xs : List AV}, allSize sz xs = true → ∀ x ∈ xs, x.cells.length = sz
  | [], _, x, h => by cases h
  | y :: ys, h, x, hx => by
    simp only [allSize, Bool.and_eq_true, beq_iff_eq] at h
    cases hx with
    | head => exact h.1
    | tail _ hx => exact mem_sizes h.2 x hx

theorem flat_append : ∀ (xs ys : List AV), flat (xs ++ ys) = flat xs ++ flat ys
  | [], ys => rfl
  | x :: xs, ys => by simp [flat, flat_append xs ys]

/-- one element of a row, written anew -/
theorem flat_set {sz : Nat} : ∀ (xs : List AV) (i : Nat) (x : AV), (∀ y ∈ xs, y.cells.length = sz) → x.cells.length = sz → i < xs.length → flat (xs.set i x) = splice (flat xs) (i * sz) x.cells
  | [], _, _, _, _, h => by simp at h
  | y :: ys, 0, x, hs, hx, _ => by
    have hy := hs y (List.mem_cons_self ..)
    simp only [List.set_cons_zero, flat, Nat.zero_mul]
    rw [splice_eq _ 0 _ (Nat.zero_le _)]
    simp [hx, ← hy]
  | y :: ys, i + 1, x, hs, hx, h => by
    have hy := hs y (List.mem_cons_self ..)
    have hs' : ∀ z ∈ ys, z.cells.length = sz := fun z hz => hs z (List.mem_cons_of_mem _ hz)
    have hi : i < ys.length := by simpa using h
    have ih := flat_set ys i x hs' hx hi
    have hfl := flat_length ys hs'
    have hle : (i + 1) * sz ≤ ys.length * sz := Nat.mul_le_mul_right _ hi
    rw [Nat.succ_mul] at hle
    simp only [List.set_cons_succ, flat, ih]
    rw [splice_eq _ (i * sz) _ (by omega), splice_eq _ ((i + 1) * sz) _ (by simp [Nat.succ_mul]; omega)]
    have e1 : (i + 1) * sz = y.cells.length + i * sz := by rw [Nat.succ_mul]; omega
    rw [e1, List.take_length_add_append, Nat.add_assoc, List.drop_length_add_append]
    simp

theorem setParts_ok {n : Nat} {L : Lay} {w : World} {sz : Nat} : ∀ (ps : List (Nat × AV)) (rs : List (Nat × Value)) (xs r : List AV) (rc : Array Value), PR n L w ps rs → (∀ y ∈ xs, y.cells.length = sz) →
    ACR n L w (flat xs) rc → setParts sz xs ps = some r → ∃ rr, Instr.fill (fun i => some (i * sz, sz)) rc rs = some rr ∧ ACR n L w (flat r) rr ∧ (∀ y ∈ r, y.cells.length = sz) ∧ r.length = xs.length
  | [], [], xs, r, rc, _, hs, hc, h => by simp [setParts] at h; subst h; exact ⟨rc, rfl, hc, hs, rfl⟩
  | [], _ :: _, _, _, _, hp, _, _, _ => hp.elim
  | _ :: _, [], _, _, _, hp, _, _, _ => by cases hp
  | (i, x) :: ps, (j, v) :: rs, xs, r, rc, hp, hs, hc, h => by
    obtain ⟨rfl, hx, hp⟩ := hp
    simp only [setParts] at h
    cases hb : (x.cells.length == sz && x.noTup && decide (i < xs.length)) with
    | false => rw [hb] at h; cases h
    | true =>
      rw [hb, cond_true rfl, setAt_eq] at h
      simp only [Bool.and_eq_true, beq_iff_eq, decide_eq_true_eq] at hb
      obtain ⟨⟨h1, h2⟩, h3⟩ := hb
      have hfl := flat_length xs hs
      have hle : (i + 1) * sz ≤ xs.length * sz := Nat.mul_le_mul_right _ h3
      rw [Nat.succ_mul] at hle
      have hvs : v.cells.size = sz := by have := hx.cells.1; simp at this; omega
      have hs' : ∀ y ∈ xs.set i x, y.cells.length = sz := fun y hy => by
        rcases List.mem_or_eq_of_mem_set hy with hy | hy
        · exact hs y hy
        · subst hy; exact h1
      obtain ⟨rr, h4, h5, h6, h7⟩ := setParts_ok ps rs (xs.set i x) r _ hp hs' (by rw [flat_set xs i x hs h1 h3]; exact hc.splice hx h2 (by omega)) h
      refine ⟨rr, ?_, h5, h6, by simpa using h7⟩
      simp only [Instr.fill]
      have hsz : i * sz + v.cells.size ≤ rc.size := by rw [hc.len, hvs]; omega
      rw [if_neg (by simp only [Bool.or_eq_true, decide_eq_true_eq, not_or]; omega)]
      exact h4

/-- a row of zero values -/
def rep (cs : List AV) : Nat → List AV
  | 0 => []
  | n + 1 => cs ++ rep cs n

theorem rep_length (cs : List AV) : ∀ n, (rep cs n).length = n * cs.length
  | 0 => by simp [rep]
  | n + 1 => by simp [rep, rep_length cs n, Nat.succ_mul]; omega

theorem rep_get (cs : List AV) : ∀ n j, j < n * cs.length → (rep cs n)[j]? = cs[j % cs.length]?
  | 0, j, h => by simp at h
  | n + 1, j, h => by
    simp only [rep]
    by_cases hj : j < cs.length
    · rw [List.getElem?_append_left hj, Nat.mod_eq_of_lt hj]
    · rw [Nat.succ_mul] at h
      rw [List.getElem?_append_right (by omega), rep_get cs n _ (by omega)]
      congr 1
      exact (Nat.mod_eq_sub_mod (by omega)).symm

theorem flat_replicate (z : AV) : ∀ n, flat (List.replicate n z) = rep z.cells n
  | 0 => rfl
  | n + 1 => by simp [List.replicate_succ, flat, rep, flat_replicate z n]

theorem zeros_rep (ti : TI) : ∀ n, zeros ti n = rep ti.zero n
  | 0 => rfl
  | n + 1 => by simp [zeros, rep, zeros_rep ti n]

theorem rep_ok {n : Nat} {L : Lay} {w : World} {cs : List AV} {rc : Array Value} (h : ACR n L w cs rc) (k : Nat) (hk : rc.size ≠ 0) : ACR n L w (rep cs k) ((Array.range (k * rc.size)).map (rc[· % rc.size]!)) where
  len := by rw [rep_length]; simp [h.len]
  one i x hx := by
    have hlt := (List.getElem?_eq_some_iff.1 hx).1
    rw [rep_length] at hlt
    rw [rep_get cs k i hlt] at hx
    exact h.one _ x hx
  vr i x hx := by
    have hlt := (List.getElem?_eq_some_iff.1 hx).1
    rw [rep_length] at hlt
    rw [rep_get cs k i hlt] at hx
    have := h.vr _ x hx
    rw [← h.len] at this hlt
    have hm : i % rc.size < rc.size := Nat.mod_lt _ (by omega)
    simpa [Array.getD, hlt, hm] using this

theorem ACR.mono {n n' : Nat} {L L' : Lay} {w w' : World} {cs : List AV} {rc : Array Value} (hn : n ≤ n') (e : Ext n L w L' w') (h : ACR n L w cs rc) : ACR n' L' w' cs rc :=
  ⟨h.len, h.one, fun i x hx => (h.vr i x hx).mono hn e⟩

/-- a new row that is never written to -/
theorem newLit {n n' : Nat} {L : Lay} {w : World} {c c' : Array Value} {sz : Nat} {xs : List AV} (hx : ACR n L w (flat xs) c) (hs : ∀ y ∈ xs, y.cells.length = sz) (cap : Nat) (hcap : xs.length ≤ cap) (own : Own)
    (w' : World) (L' : Lay) (hn : n ≤ n') (ha : Alloc w w' c') (hc' : ∀ (j : Nat) v, c[j]? = some v → c'[j]? = some v) (hwho : ∀ o, o < c.size → L'.who w.heap.size o = .imm) (he : Ext n L w L' w') (ho : OwnOK L' n' own sz w.heap.size 0 xs.length cap) :
    VR n' L' w' (.lit sz own xs) (.slice (some ⟨w.heap.size, 0, none⟩) xs.length cap) := by
  have hl := flat_length xs hs
  refine .lit sz own xs w.heap.size 0 cap (fun j => c.getD j default) hcap hs (fun j hj => ?_) hx.one (fun j x hj => (hx.vr j x hj).mono hn he) ho
  have hlt : j < c.size := by rw [hx.len]; omega
  rw [Nat.zero_add, ha.new]
  have : c[j]? = some (c.getD j default) := by simp [Array.getD, hlt]
  exact ⟨hc' j _ this, hwho j hlt⟩

theorem buildSlice_run {B base : Nat} {w0 w : World} {L : Lay} {hp : List Blk} {ts : List TV} {rt : Array Value} {ds : List Deferred} (hT : TysOK P C) (hI : Inv C.glob B w0 L w hp) (hF : FR hp.length L w base ts rt)
    {t e : TypeId} {a b : Nat} {zz : List AV} {q : Bool} {ei : TI} {len : Nat} {ps : Array (Nat × Operand)} {vs : List (Nat × AV)} {z : AV} {xs : List AV} (hti : C.ty t = some ⟨.slice e, a, b, zz, q⟩) (hei : C.ty e = some ei)
    (hz : valOf ei ei.zero = some z) (hv : valParts C ts ps.toList = some vs) (hzl : z.cells.length = ei.size) (hzt : z.noTup = true) (h0 : ei.size ≠ 0) (hle : len * ei.size ≤ 16777216)
    (h : setParts ei.size (List.replicate len z) vs = some xs) :
    ∃ rr, (Instr.buildSlice t len (ps.map fun (i, x) => (i, ({ tmps := rt, defers := ds } : Act).eval x))).run P w = .ok (.slice (some ⟨w.heap.size, 0, none⟩) len len) (w.alloc (.cells rr e)) ∧
      ACR hp.length L w (flat xs) rr ∧ (∀ y ∈ xs, y.cells.length = ei.size) ∧ xs.length = len := by
  obtain ⟨_, d, _, _, hd, _, _, hk, -⟩ := (hT t _ hti).ex
  dsimp only at hk
  cases d <;> simp only [tkOf, reduceCtorEq] at hk
  simp only [TK.slice.injEq] at hk
  subst hk
  obtain ⟨eti, ed, zv, hinfo, hed, hsz, _, hek, hzi, hzs, hzl', hzo, _, _⟩ := (hT _ _ hei).ex
  have hpr := valParts_ok (ds := ds) hI hF ps.toList vs hv
  have hz0 := zero_ok hp.length L w hzs hzo
  -- the zero element's cells are the type's
  have hzc : z.cells = ei.zero := by
    unfold valOf at hz
    have hzl2 : ei.zero.length = ei.size := by rw [← hz0.len, hzl']
    cases ha : ei.k.agg with
    | false =>
      have h1 := part_one ha hz
      have hone := allOne_mem hzo _ _ h1
      rw [AV.cells_one hone] at hzl ⊢
      have : ei.size = 1 := by simpa using hzl.symm
      rw [this] at hzl2
      match hq : ei.zero, hzl2 with
      | [y], _ => rw [hq] at h1; simp at h1; rw [h1]
    | true =>
      obtain ⟨rfl, _⟩ := part_agg ha hz
      simp [AV.cells, ← hzl2]
  have hsizes : ∀ y ∈ List.replicate len z, y.cells.length = ei.size := fun y hy => by rw [(List.mem_replicate.1 hy).2]; exact hzl
  have hzsize : zv.cells.size ≠ 0 := by rw [hzl']; exact h0
  have hrep : ACR hp.length L w (flat (List.replicate len z)) ((Array.range (len * zv.cells.size)).map (zv.cells[· % zv.cells.size]!)) := by
    rw [flat_replicate, hzc]; exact rep_ok hz0 len hzsize
  obtain ⟨rr, h1, h2, h3, h4⟩ := setParts_ok vs _ _ xs _ hpr hsizes hrep h
  have hlen : xs.length = len := by rw [h4]; simp
  refine ⟨rr, ?_, h2, h3, hlen⟩
  · have hpart : (ps.map fun (i, x) => (i, ({ tmps := rt, defers := ds } : Act).eval x)).toList = ps.toList.map fun (i, x) => (i, ({ tmps := rt, defers := ds } : Act).eval x) := by simp
    have hno : ¬ (len * eti.size > 2 ^ 24) := by rw [hsz]; omega
    simp only [Instr.buildSlice, Sem.run_bind, run_underlying hd, Result.andThen_ok, run_sizeOf hinfo, if_neg hno, hpart, Sem.run_ite]
    by_cases hz2 : len * eti.size = 0
    · have : len = 0 := by rcases Nat.mul_eq_zero.1 hz2 with h | h; exact h; omega
      subst this
      have hxs : xs = [] := List.length_eq_zero_iff.1 hlen
      have hf : Instr.fill (fun i => some (i * eti.size, eti.size)) ((Array.range (0 * eti.size)).map ((#[] : Array Value)[· % 0]!)) (ps.toList.map fun (i, x) => (i, ({ tmps := rt, defers := ds } : Act).eval x)) = some rr := by
        rw [← h1, hsz]
        congr 1
        simp
      rw [if_pos hz2]
      simp only [Sem.run_pure, Result.andThen_ok]
      rw [show (#[] : Array Value).size = 0 from rfl, hf]
      simp [run_newRow]
    · rw [if_neg hz2]
      have hf : Instr.fill (fun i => some (i * eti.size, eti.size)) ((Array.range (len * eti.size)).map (zv.cells[· % zv.cells.size]!)) (ps.toList.map fun (i, x) => (i, ({ tmps := rt, defers := ds } : Act).eval x)) = some rr := by
        rw [← h1, hsz, hzl']
      simp only [Sem.run_bind, run_zeroValue hinfo hzi, Result.andThen_ok, Sem.run_pure, hf]
      simp [run_newRow]

theorem buildSlice_ok {B base : Nat} {w0 w : World} {L : Lay} {hp : List Blk} {ts : List TV} {rt : Array Value} {ds : List Deferred} (hT : TysOK P C) (hI : Inv C.glob B w0 L w hp) (hF : FR hp.length L w base ts rt)
    {t e : TypeId} {a b : Nat} {zz : List AV} {q : Bool} {ei : TI} {len : Nat} {ps : Array (Nat × Operand)} {vs : List (Nat × AV)} {z : AV} {xs : List AV} (hti : C.ty t = some ⟨.slice e, a, b, zz, q⟩) (hei : C.ty e = some ei)
    (hz : valOf ei ei.zero = some z) (hv : valParts C ts ps.toList = some vs) (hzl : z.cells.length = ei.size) (hzt : z.noTup = true) (h0 : ei.size ≠ 0) (hle : len * ei.size ≤ 16777216)
    (h : setParts ei.size (List.replicate len z) vs = some xs) :
    ∃ w' L', (Instr.buildSlice t len (ps.map fun (i, x) => (i, ({ tmps := rt, defers := ds } : Act).eval x))).run P w = .ok (.slice (some ⟨w.heap.size, 0, none⟩) len len) w' ∧
      Inv C.glob B w0 L' w' hp ∧ Ext hp.length L w L' w' ∧ (∀ s, KeepLoc s L w L' w') ∧ w.heap.size ≤ w'.heap.size ∧ VR hp.length L' w' (.lit ei.size .exact xs) (.slice (some ⟨w.heap.size, 0, none⟩) len len) := by
  obtain ⟨rr, h1, h2, h3, hlen⟩ := buildSlice_run (ds := ds) hT hI hF hti hei hz hv hzl hzt h0 hle h
  obtain ⟨k1, k2, k3⟩ := hI.addRow (alloc_alloc w rr e) (fun o => if o < rr.size then .imm else .none) (fun o => ⟨fun b => by split <;> simp, fun g => by split <;> simp⟩)
  refine ⟨w.alloc (.cells rr e), L.add w.heap.size (fun o => if o < rr.size then .imm else .none), h1, k1, k2, k3, by simp, ?_⟩
  have := newLit (n' := hp.length) (c' := rr) h2 h3 len (by omega) .exact (w.alloc (.cells rr e)) (L.add w.heap.size (fun o => if o < rr.size then .imm else .none)) (Nat.le_refl _) (alloc_alloc w rr e) (fun j v h => h)
    (fun o ho => by rw [Lay.add_eq, if_pos ho]) k2 hlen.symm
  rw [hlen] at this
  exact this

end Go.Proofs.YtkocimfdgdegfaaGreatDoor.E

namespace Go.Proofs.YtkocimfdgdegfaaGreatDoor.E
open Go Go.RowKit
variable {P : Program} {C : Cfg}

theorem run_newVar {t : TypeId} {v : Value} (w : World) : (newVar t v).run P w = .ok ⟨w.heap.size, 0, none⟩ (w.alloc (.cells v.cells t)) := run_newRow w

theorem ACR.of_value {n : Nat} {L : Lay} {w : World} {x : AV} {v : Value} (h : VR n L w x v) (hn : x.noTup = true) : ACR n L w x.cells v.cells where
  len := by have := h.cells.1; simpa using this
  one := h.ones hn
  vr i y hy := by
    have hc := h.cells
    have hlt : i < v.cells.size := by have := (List.getElem?_eq_some_iff.1 hy).1; have := hc.1; simp at this; omega
    have := hc.2 i y v.cells[i] hy (by simp [hlt])
    simpa [Array.getD, hlt] using this

/-- a new box of the frame's own -/
theorem newBox {B base : Nat} {w0 w : World} {L : Lay} {hp : List Blk} (hI : Inv C.glob B w0 L w hp) (hbase : base ≤ w.heap.size) {cs : List AV} {c : Array Value} (hx : ACR hp.length L w cs c) (t : TypeId) (d : Nat) :
    ∃ L', Inv C.glob B w0 L' (w.alloc (.cells c t)) hp ∧ Ext hp.length L w L' (w.alloc (.cells c t)) ∧ (∀ s, KeepLoc s L w L' (w.alloc (.cells c t))) ∧
      Boxed hp.length L' (w.alloc (.cells c t)) base d cs (.pointer (some ⟨w.heap.size, 0, none⟩)) := by
  have ha := alloc_alloc w c t
  obtain ⟨k1, k2, k3⟩ := hI.addRow ha (fun o => if o < c.size then .loc d else .none) (fun o => ⟨fun b => by split <;> simp, fun g => by split <;> simp⟩)
  refine ⟨_, k1, k2, k3, w.heap.size, rfl, hbase, by simp, fun j x hj => ?_⟩
  have hlt : j < c.size := by rw [hx.len]; exact (List.getElem?_eq_some_iff.1 hj).1
  refine ⟨by rw [Lay.add_eq, if_pos hlt], ha.fro j hlt, hx.one j x hj, c.getD j default, ?_, (hx.vr j x hj).mono (Nat.le_refl _) k2⟩
  rw [ha.new]; simp [Array.getD, hlt]

/-- a new block of the heap's -/
theorem newHeap {B : Nat} {w0 w : World} {L : Lay} {hp : List Blk} (hI : Inv C.glob B w0 L w hp) {cs : List AV} {c : Array Value} (hx : ACR hp.length L w cs c) {w' : World} {c' : Array Value} (ha : Alloc w w' c')
    (hc : ∀ (j : Nat) v, c[j]? = some v → c'[j]? = some v) :
    ∃ L', L'.loc hp.length = some (w.heap.size, 0) ∧ L'.ext hp.length = cs.length ∧ (∀ o, o < c'.size → L'.who w.heap.size o = .blk hp.length) ∧ Inv C.glob B w0 L' w' (hp ++ [.cells cs]) ∧ Ext hp.length L w L' w' ∧ ∀ s, KeepLoc s L w L' w' :=
  hI.addBlk ha fun j x hj => by
    have hlt : j < c.size := by rw [hx.len]; exact (List.getElem?_eq_some_iff.1 hj).1
    exact ⟨hx.one j x hj, c.getD j default, hc j _ (by simp [Array.getD, hlt]), hx.vr j x hj⟩

theorem len_ok {n : Nat} {L : Lay} {w : World} (hT : TysOK P C) {t : TypeId} {ts : List TypeId} {x : AV} {v : Value} {m : Nat} {ty : TypeId}
    (h : lenE C t x = some m) (hv : VR n L w x v) : (Builtin.len_ (t :: ts).toArray ty #[v]).run P w = .ok (.int .i64 m) w := by
  unfold lenE at h
  split at h
  · rename_i k e _ _ _ _ hti
    obtain ⟨_, d, _, _, hd, _, _, hk, -⟩ := (hT t _ hti).ex
    dsimp only at hk
    cases d <;> simp only [tkOf, reduceCtorEq] at hk
    simp only [TK.array.injEq] at hk
    cases h
    obtain ⟨rfl, _⟩ := hk
    simp [Builtin.len_, run_underlying hd, goInt]
  · rename_i hti
    obtain ⟨_, d, _, _, hd, _, _, hk, -⟩ := (hT t _ hti).ex
    dsimp only at hk
    cases d <;> simp only [tkOf, reduceCtorEq] at hk
    cases hv <;> simp only [strLen, Option.some.injEq, reduceCtorEq] at h
    case str l s hs =>
      have : s.size = m := by rw [← h, ← hs, Array.length_toList]; rfl
      simp [Builtin.len_, run_underlying hd, goInt, this]
  · rename_i hti
    obtain ⟨_, d, _, _, hd, _, _, hk, -⟩ := (hT t _ hti).ex
    dsimp only at hk
    cases d <;> simp only [tkOf, reduceCtorEq] at hk
    cases hv <;> simp only [slcLen, Option.some.injEq, reduceCtorEq] at h
    all_goals (subst h; simp [Builtin.len_, run_underlying hd, goInt])
  · cases h

theorem cap_ok {n : Nat} {L : Lay} {w : World} (hT : TysOK P C) {t : TypeId} {ts : List TypeId} {x : AV} {v : Value} {m : Nat} {ty : TypeId}
    (h : capE C t x = some m) (hv : VR n L w x v) : (Builtin.cap_ (t :: ts).toArray ty #[v]).run P w = .ok (.int .i64 m) w := by
  unfold capE at h
  split at h
  · rename_i hti
    obtain ⟨_, d, _, _, hd, _, _, hk, -⟩ := (hT t _ hti).ex
    dsimp only at hk
    cases d <;> simp only [tkOf, reduceCtorEq] at hk
    split at h
    · cases h; cases hv; simp [Builtin.cap_, run_underlying hd, goInt]
    · cases h
      cases hv with
      | lit _ _ _ _ _ cap _ _ _ _ _ _ ho =>
        have ho : cap = _ := ho
        subst ho
        simp [Builtin.cap_, run_underlying hd, goInt]
    · cases h
  · cases h

theorem minE_ok {n : Nat} {L : Lay} {w : World} {mx : Bool} {xs : List AV} {vs : List Value} {x : AV} (h : minE mx xs = some x) (hv : CR n L w xs vs) (ts : Array TypeId) (ty : TypeId) :
    ∃ rv, ((if mx then Builtin.max_ else Builtin.min_) ts ty vs.toArray).run P w = .ok rv w ∧ VR n L w x rv := by
  unfold minE at h
  split at h
  · rename_i k a k' b
    cases hb : decide (k = k') with
    | false => rw [hb] at h; cases h
    | true =>
      rw [hb, cond_true rfl] at h
      have hkk : k = k' := by simpa using hb
      subst hkk
      cases h
      match vs, hv with
      | [v1, v2], hv =>
        have h1 := intOf_ok (hv.2 0 _ v1 rfl rfl)
        have h2 := intOf_ok (hv.2 1 _ v2 rfl rfl)
        subst h1; subst h2
        cases mx with
        | true =>
          refine ⟨.int k (if b > a then b else a), by simp [Builtin.max_, Builtin.max2], ?_⟩
          have : (bif true then (bif decide (a < b) then b else a) else (bif decide (b < a) then b else a)) = if b > a then b else a := by
            by_cases h : a < b <;> simp [h]
          rw [this]; exact .int _ _
        | false =>
          refine ⟨.int k (if b < a then b else a), by simp [Builtin.min_, Builtin.min2], ?_⟩
          have : (bif false then (bif decide (a < b) then b else a) else (bif decide (b < a) then b else a)) = if b < a then b else a := by
            by_cases h : b < a <;> simp [h]
          rw [this]; exact .int _ _
      | [], hv => have := hv.1; simp at this
      | [_], hv => have := hv.1; simp at this
      | _ :: _ :: _ :: _, hv => have := hv.1; simp at this
  · cases h

/-! slices -/
theorem bnd_ok {n : Nat} {L : Lay} {w : World} {x : AV} {d m y : Nat} {v : Value} {code : BoundsCode} (h : bnd (some x) d = some m) (hv : VR n L w x v) (hle : m ≤ y) : (Instr.sliceBound v y code).run P w = .ok m w := by
  unfold bnd at h
  split at h
  · rename_i heq; cases heq
  · rename_i k i heq
    cases heq
    cases hb : decide (i < 0) with
    | true => rw [hb] at h; cases h
    | false =>
      rw [hb, cond_false rfl] at h
      cases h
      have h0 : 0 ≤ i := by simpa using hb
      cases hv
      have : i ≤ y := by omega
      simp [Instr.sliceBound, asIntOf, h0, this]
  · cases h

/-- operands that may lack -/
def OVR (n : Nat) (L : Lay) (w : World) : Option AV → Option Value → Prop
  | none, none => True
  | some x, some v => VR n L w x v
  | _, _ => False

theorem bounds_ok {n : Nat} {L : Lay} {w : World} {lo hi mx : Option AV} {vlo vhi vmx : Option Value} (h1 : OVR n L w lo vlo) (h2 : OVR n L w hi vhi) (h3 : OVR n L w mx vmx) {isS : Bool} {len cap l h m : Nat}
    (hl : bnd lo 0 = some l) (hh : bnd hi len = some h) (hm : bnd mx cap = some m) (hlh : l ≤ h) (hhm : h ≤ m) (hmc : m ≤ cap) (hx : mx.isSome = true → hi.isSome = true) :
    (Instr.sliceBounds isS len cap vlo vhi vmx).run P w = .ok (l, h, m) w := by
  have bl : ∀ v, vlo = some v → ∀ code, (Instr.sliceBound v h code).run P w = .ok l w := fun v hv code => by
    subst hv
    cases lo with
    | none => exact h1.elim
    | some x => exact bnd_ok hl h1 hlh
  have bl0 : vlo = none → l = 0 := fun hv => by
    subst hv
    cases lo with
    | none => simp only [bnd, Option.some.injEq] at hl; exact hl.symm
    | some x => exact h1.elim
  have bh : ∀ v, vhi = some v → ∀ code, (Instr.sliceBound v m code).run P w = .ok h w := fun v hv code => by
    subst hv
    cases hi with
    | none => exact h2.elim
    | some x => exact bnd_ok hh h2 hhm
  have bh0 : vhi = none → h = len ∧ vmx = none := fun hv => by
    subst hv
    cases hi with
    | none =>
      simp only [bnd, Option.some.injEq] at hh
      refine ⟨hh.symm, ?_⟩
      cases mx with
      | none => cases vmx with
        | none => rfl
        | some _ => exact h3.elim
      | some _ => simp at hx
    | some x => exact h2.elim
  have bm : ∀ v, vmx = some v → ∀ code, (Instr.sliceBound v cap code).run P w = .ok m w := fun v hv code => by
    subst hv
    cases mx with
    | none => exact h3.elim
    | some x => exact bnd_ok hm h3 hmc
  have bm0 : vmx = none → m = cap := fun hv => by
    subst hv
    cases mx with
    | none => simp only [bnd, Option.some.injEq] at hm; exact hm.symm
    | some x => exact h3.elim
  cases vmx with
  | none =>
    have := bm0 rfl; subst this
    cases vhi with
    | none =>
      have := (bh0 rfl).1; subst this
      cases vlo with
      | none => have := bl0 rfl; subst this; simp [Instr.sliceBounds]
      | some v => simp [Instr.sliceBounds, bl v rfl]
    | some u =>
      cases vlo with
      | none => have := bl0 rfl; subst this; simp [Instr.sliceBounds, bh u rfl]
      | some v => simp [Instr.sliceBounds, bh u rfl, bl v rfl]
  | some q =>
    cases vhi with
    | none => have := (bh0 rfl).2; cases this
    | some u =>
      cases vlo with
      | none => have := bl0 rfl; subst this; simp [Instr.sliceBounds, bm q rfl, bh u rfl]
      | some v => simp [Instr.sliceBounds, bm q rfl, bh u rfl, bl v rfl]

theorem drop_take_get {α : Type} (xs : List α) (l k j : Nat) (h : j < k) : ((xs.drop l).take k)[j]? = xs[l + j]? := by
  rw [List.getElem?_take_of_lt h, List.getElem?_drop]

theorem flat_drop {sz : Nat} : ∀ (xs : List AV) (l : Nat), (∀ x ∈ xs, x.cells.length = sz) → flat (xs.drop l) = (flat xs).drop (l * sz)
  | [], l, _ => by simp [flat]
  | x :: xs, 0, _ => by simp
  | x :: xs, l + 1, h => by
    have hx := h x (List.mem_cons_self ..)
    simp only [List.drop_succ_cons, flat, flat_drop xs l fun y hy => h y (List.mem_cons_of_mem _ hy)]
    have e : (l + 1) * sz = x.cells.length + l * sz := by rw [Nat.succ_mul]; omega
    rw [e, List.drop_length_add_append]
theorem flat_take {sz : Nat} : ∀ (xs : List AV) (l : Nat), (∀ x ∈ xs, x.cells.length = sz) → flat (xs.take l) = (flat xs).take (l * sz)
  | [], l, _ => by simp [flat]
  | x :: xs, 0, _ => by simp [flat]
  | x :: xs, l + 1, h => by
    have hx := h x (List.mem_cons_self ..)
    simp only [List.take_succ_cons, flat, flat_take xs l fun y hy => h y (List.mem_cons_of_mem _ hy)]
    have e : (l + 1) * sz = x.cells.length + l * sz := by rw [Nat.succ_mul]; omega
    rw [e, List.take_length_add_append]

/-- a part of a row that is never written to -/
theorem lit_sub {n : Nat} {L : Lay} {w : World} {sz : Nat} {xs : List AV} {rb ro : Nat} {cv : Nat → Value} {l h cap : Nat} {own : Own} (hs : ∀ x ∈ xs, x.cells.length = sz)
    (h1 : ∀ j, j < xs.length * sz → w.cell? ⟨rb, ro + j, none⟩ = some (cv j) ∧ L.who rb (ro + j) = .imm) (ho : ∀ (j : Nat) c, (flat xs)[j]? = some c → c.one = true) (h2 : ∀ (j : Nat) c, (flat xs)[j]? = some c → VR n L w c (cv j))
    (hlh : l ≤ h) (hhx : h ≤ xs.length) (hcap : h - l ≤ cap) (a : Addr) (ha : l < h → a = ⟨rb, ro + l * sz, none⟩) (ha' : a.spot = none) (hown : OwnOK L n own sz a.block a.off (h - l) cap) :
    VR n L w (.lit sz own ((xs.drop l).take (h - l))) (.slice (some a) (h - l) cap) := by
  have hlen : ((xs.drop l).take (h - l)).length = h - l := by simp; omega
  have hfl : ∀ j, j < (h - l) * sz → (flat ((xs.drop l).take (h - l)))[j]? = (flat xs)[l * sz + j]? := fun j hj => by
    rw [flat_take _ _ (fun x hx => hs x (List.mem_of_mem_drop hx)), flat_drop _ _ hs, drop_take_get _ _ _ _ hj]
  have hsz : (h - l) * sz + l * sz ≤ xs.length * sz := by rw [← Nat.add_mul, Nat.sub_add_cancel hlh]; exact Nat.mul_le_mul_right _ hhx
  have hflen : (flat ((xs.drop l).take (h - l))).length = (h - l) * sz := by rw [flat_length _ (fun x hx => hs x (List.mem_of_mem_drop (List.mem_of_mem_take hx))), hlen]
  have key : VR n L w (.lit sz own ((xs.drop l).take (h - l))) (.slice (some ⟨a.block, a.off, none⟩) ((xs.drop l).take (h - l)).length cap) := by
    refine .lit sz own _ a.block a.off cap (fun j => cv (l * sz + j)) (by omega) (fun x hx => hs x (List.mem_of_mem_drop (List.mem_of_mem_take hx))) (fun j hj => ?_) (fun j c hc => ?_) (fun j c hc => ?_) (by rw [hlen]; exact hown)
    · rw [hlen] at hj
      have hlt : l < h := by
        rcases Nat.lt_or_ge l h with g | g
        · exact g
        · rw [show h - l = 0 by omega] at hj; omega
      rw [ha hlt]
      have := h1 (l * sz + j) (by omega)
      rw [← Nat.add_assoc] at this
      exact this
    · have hj : j < (h - l) * sz := by rw [← hflen]; exact (List.getElem?_eq_some_iff.1 hc).1
      rw [hfl j hj] at hc; exact ho _ c hc
    · have hj : j < (h - l) * sz := by rw [← hflen]; exact (List.getElem?_eq_some_iff.1 hc).1
      rw [hfl j hj] at hc; exact h2 _ c hc
  rw [hlen] at key
  obtain ⟨ab, ao, asp⟩ := a
  dsimp only at ha'
  subst ha'
  exact key

end Go.Proofs.YtkocimfdgdegfaaGreatDoor.E
