/- The soundness of the evaluator's operations: slice expressions, elements, rows that grow. -/
import Derived.Test.YtkocimfdgdegfaaGreatDoorEb
set_option linter.unusedSimpArgs false
set_option linter.unusedVariables false
namespace Go.Proofs.YtkocimfdgdegfaaGreatDoor.E
open Go Go.RowKit
variable {P : Program} {C : Cfg}

theorem tk_string {d : TypeDesc} (h : tkOf d = .string) : d = .string := by cases d <;> simp_all [tkOf]
theorem tk_slice {d : TypeDesc} {e : TypeId} (h : tkOf d = .slice e) : d = .slice e := by cases d <;> simp_all [tkOf]
theorem tk_array {d : TypeDesc} {m : Nat} {e : TypeId} (h : tkOf d = .array m e) : d = .array m e := by cases d <;> simp_all [tkOf]
theorem tk_int {d : TypeDesc} {k : IntKind} (h : tkOf d = .int k) : d = .int k := by cases d <;> simp_all [tkOf]

theorem ty_string (hT : TysOK P C) {t : TypeId} {a b : Nat} {z : List AV} {q : Bool} (h : C.ty t = some ⟨.string, a, b, z, q⟩) : P.underlying t = some .string := by
  obtain ⟨_, d, _, _, hd, _, _, hk, -⟩ := (hT t _ h).ex
  rw [hd, tk_string hk.symm]
theorem ty_slice (hT : TysOK P C) {t e : TypeId} {a b : Nat} {z : List AV} {q : Bool} (h : C.ty t = some ⟨.slice e, a, b, z, q⟩) : P.underlying t = some (.slice e) := by
  obtain ⟨_, d, _, _, hd, _, _, hk, -⟩ := (hT t _ h).ex
  rw [hd, tk_slice hk.symm]
theorem ty_array (hT : TysOK P C) {t e : TypeId} {m a b : Nat} {z : List AV} {q : Bool} (h : C.ty t = some ⟨.array m e, a, b, z, q⟩) : P.underlying t = some (.array m e) := by
  obtain ⟨_, d, _, _, hd, _, _, hk, -⟩ := (hT t _ h).ex
  rw [hd, tk_array hk.symm]
theorem ty_int (hT : TysOK P C) {t : TypeId} {k : IntKind} {a b : Nat} {z : List AV} {q : Bool} (h : C.ty t = some ⟨.int k, a, b, z, q⟩) : P.underlying t = some (.int k) := by
  obtain ⟨_, d, _, _, hd, _, _, hk, -⟩ := (hT t _ h).ex
  rw [hd, tk_int hk.symm]
theorem ty_size (hT : TysOK P C) {t : TypeId} {ti : TI} (h : C.ty t = some ti) : ∃ i, P.info? t = some i ∧ i.size = ti.size ∧ i.bytes = ti.bytes := by
  obtain ⟨i, _, _, hi, _, hs, hb, -⟩ := (hT t _ h).ex
  exact ⟨i, hi, hs, hb⟩

theorem Addr.spot_add {a : Addr} {n : Nat} (h : a.spot = none) : (a.add n).spot = none := by
  unfold Addr.add; split <;> simp [h]

theorem bnd_some (x : AV) (d d' : Nat) : bnd (some x) d = bnd (some x) d' := by cases x <;> rfl

theorem VR.nilLit {n : Nat} {L : Lay} {w : World} {sz : Nat} {own : Own} (a : Addr) (cap : Nat) (ha : a.spot = none) (ho : OwnOK L n own sz a.block a.off 0 cap) : VR n L w (.lit sz own []) (.slice (some a) 0 cap) := by
  obtain ⟨ab, ao, asp⟩ := a
  dsimp only at ha
  subst ha
  exact .lit sz own [] ab ao cap (fun _ => default) (Nat.zero_le _) (fun x hx => by cases hx) (fun j hj => by simp at hj) (fun j c hc => by simp [flat] at hc) (fun j c hc => by simp [flat] at hc) ho

theorem sliceE_ok {B : Nat} {w0 w : World} {L : Lay} {st : St} {rt : Array Value} (hT : TysOK P C) (hI : Inv C.glob B w0 L w st.hp) {t : TypeId} {tv : TV} {va : Value} {lo hi mx : Option AV} {vlo vhi vmx : Option Value} {x : AV}
    (h : sliceE C st t tv lo hi mx = some x) (ha : OR st.hp.length L w st.tmps rt tv va) (h1 : OVR st.hp.length L w lo vlo) (h2 : OVR st.hp.length L w hi vhi) (h3 : OVR st.hp.length L w mx vmx) :
    ∃ rv, (Instr.sliceAt t va vlo vhi vmx).run P w = .ok rv w ∧ VR st.hp.length L w x rv := by
  unfold sliceE at h
  split at h
  · rename_i hti
    have hu := ty_string hT hti
    split at h
    · rename_i s
      split at h
      · rename_i l hh hl hhh
        cases hb : (decide (l ≤ hh) && decide (hh ≤ s.length)) with
        | false => rw [hb] at h; cases h
        | true =>
          rw [hb, cond_true rfl] at h
          cases h
          simp only [Bool.and_eq_true, decide_eq_true_eq] at hb
          have hvm : vmx = none := by cases vmx with | none => rfl | some _ => exact h3.elim
          subst hvm
          obtain ⟨b, rfl, hb1, hb2, hb3⟩ := strOf_ok ha
          have := bounds_ok (P := P) (isS := false) (len := b.size) (cap := b.size) h1 h2 h3 hl (by rw [hb3]; exact hhh) (m := b.size) rfl hb.1 (by rw [hb3]; exact hb.2) (Nat.le_refl _) (by simp)
          refine ⟨.string (b.extract l hh), by simp [Instr.sliceAt, Instr.slice, run_underlying hu, this], .str _ _ ?_⟩
          rw [ByteArray.data_extract, Array.toList_extract, hb1]
      · cases h
    · cases h
  · rename_i e _ _ _ _ hti
    have hu := ty_slice hT hti
    split at h
    · cases h
    · rename_i ei hei
      obtain ⟨eti, hinfo, hsz, _⟩ := ty_size hT hei
      split at h
      · -- nil
        split at h
        · rename_i g1 g2 g3
          cases hb : (mx.isSome && !hi.isSome) with
          | true => rw [hb] at h; cases h
          | false =>
            rw [hb, cond_false rfl] at h
            cases h
            cases ha
            have hx : mx.isSome = true → hi.isSome = true := fun q => by rw [q] at hb; simpa using hb
            have := bounds_ok (P := P) (isS := true) (len := 0) (cap := 0) h1 h2 h3 g1 g2 g3 (Nat.le_refl _) (Nat.le_refl _) (Nat.le_refl _) hx
            exact ⟨.slice none 0 0, by simp [Instr.sliceAt, Instr.slice, run_underlying hu, this, run_sizeOf hinfo], .nilS⟩
        · cases h
      · rename_i sz own xs
        cases ha with
        | lit _ _ _ rb ro cap cv hc hs k1 ko k2 hown =>
        split at h
        · rename_i l hh hl hhh
          cases hb : (!(decide (l ≤ hh) && decide (hh ≤ xs.length) && sz == ei.size)) with
          | true => rw [hb] at h; cases h
          | false =>
            rw [hb, cond_false rfl] at h
            simp only [Bool.not_eq_false', Bool.and_eq_true, decide_eq_true_eq, beq_iff_eq] at hb
            obtain ⟨⟨hlh, hhx⟩, hse⟩ := hb
            have real : ∀ m, bnd mx cap = some m → hh ≤ m → m ≤ cap → (mx.isSome = true → hi.isSome = true) →
                (Instr.sliceAt t (.slice (some ⟨rb, ro, none⟩) xs.length cap) vlo vhi vmx).run P w = .ok (.slice (some (if m = l then ⟨rb, ro, none⟩ else (⟨rb, ro, none⟩ : Addr).add (l * sz))) (hh - l) (m - l)) w := fun m q1 q2 q3 q4 => by
              have := bounds_ok (P := P) (isS := true) (len := xs.length) (cap := cap) h1 h2 h3 hl hhh q1 hlh q2 q3 q4
              simp only [Instr.sliceAt, Instr.slice, Sem.run_bind, run_underlying hu, Result.andThen_ok, this, run_sizeOf hinfo, hsz, hse, Sem.run_pure]
              split <;> rfl
            have addr : ∀ m, hh ≤ m → l < hh → (if m = l then ⟨rb, ro, none⟩ else (⟨rb, ro, none⟩ : Addr).add (l * sz)) = ⟨rb, ro + l * sz, none⟩ := fun m q1 q2 => by
              rw [if_neg (by omega), Addr.plus]
            have spot : ∀ m, (if m = l then ⟨rb, ro, none⟩ else (⟨rb, ro, none⟩ : Addr).add (l * sz)).spot = none := fun m => by
              split
              · rfl
              · exact Addr.spot_add rfl
            dsimp only at h
            split at h
            · rename_i m0
              split at h
              · rename_i m hhs hm
                cases hb2 : (!(decide (hh ≤ m) && decide (m ≤ xs.length))) with
                | true => rw [hb2] at h; cases h
                | false =>
                  rw [hb2, cond_false rfl] at h
                  cases h
                  simp only [Bool.not_eq_false', Bool.and_eq_true, decide_eq_true_eq] at hb2
                  have hm' : bnd (some m0) cap = some m := (bnd_some m0 cap 0).trans hm
                  refine ⟨_, real m hm' hb2.1 (by omega) (fun _ => hhs), ?_⟩
                  refine lit_sub hs k1 ko k2 hlh hhx (by omega) _ (addr m hb2.1) (spot m) ?_
                  cases hq : (m == hh) with
                  | false => trivial
                  | true => show m - l = hh - l; have := beq_iff_eq.1 hq; omega
              · cases h
            · have q := real cap rfl (by omega) (Nat.le_refl _) (by simp)
              refine ⟨_, q, ?_⟩
              have vr : ∀ own', OwnOK L st.hp.length own' sz (if cap = l then ⟨rb, ro, none⟩ else (⟨rb, ro, none⟩ : Addr).add (l * sz)).block (if cap = l then ⟨rb, ro, none⟩ else (⟨rb, ro, none⟩ : Addr).add (l * sz)).off (hh - l) (cap - l) →
                  VR st.hp.length L w (.lit sz own' ((xs.drop l).take (hh - l))) (.slice (some (if cap = l then ⟨rb, ro, none⟩ else (⟨rb, ro, none⟩ : Addr).add (l * sz))) (hh - l) (cap - l)) := fun own' ho =>
                lit_sub hs k1 ko k2 hlh hhx (by omega) _ (addr cap (by omega)) (spot cap) ho
              split at h
              · cases h
                refine vr _ ?_
                cases hq : (hh == xs.length) with
                | false => trivial
                | true =>
                  have hown : cap = xs.length := hown
                  show cap - l = hh - l
                  have := beq_iff_eq.1 hq
                  omega
              · rename_i g s
                cases h
                refine vr _ ?_
                cases hq : (hh == xs.length && !(l == hh)) with
                | false => trivial
                | true =>
                  simp only [Bool.and_eq_true, beq_iff_eq, Bool.not_eq_true', beq_eq_false_iff_ne, ne_eq] at hq
                  obtain ⟨rfl, hne⟩ := hq
                  rw [addr cap (by omega) (by omega)]
                  obtain ⟨g1, g2⟩ := hown
                  refine ⟨g1, fun F hF => ?_⟩
                  obtain ⟨g3, g4⟩ := g2 F hF
                  refine ⟨by omega, fun he => ?_⟩
                  obtain ⟨g5, g6, g7, g8, g9⟩ := g4 (by omega)
                  refine ⟨g5, by omega, g7, ?_, by omega⟩
                  show ro + l * sz = _
                  rw [g8, Nat.add_assoc, ← Nat.add_mul]
                  congr 2
                  omega
              · cases h
                exact vr _ trivial
        · cases h
      · rename_i sz b off len
        cases ha with
        | arr _ _ _ _ a cap hbn hc ha =>
        split at h
        · rename_i l hh bcs hl hhh hbc
          obtain ⟨p, hp1, hql, hp2⟩ := hI.blks b bcs (blkCells_eq hbc)
          obtain ⟨rfl, hwho, hext⟩ := ha p hp1
          cases hb : (!(decide (l ≤ hh) && decide (hh ≤ len) && sz == ei.size)) with
          | true => rw [hb] at h; cases h
          | false =>
            rw [hb, cond_false rfl] at h
            simp only [Bool.not_eq_false', Bool.and_eq_true, decide_eq_true_eq, beq_iff_eq] at hb
            obtain ⟨⟨hlh, hhx⟩, hse⟩ := hb
            have real : ∀ m, bnd mx cap = some m → hh ≤ m → m ≤ cap → (mx.isSome = true → hi.isSome = true) →
                (Instr.sliceAt t (.slice (some ⟨p.1, p.2 + off, none⟩) len cap) vlo vhi vmx).run P w = .ok (.slice (some (if m = l then ⟨p.1, p.2 + off, none⟩ else (⟨p.1, p.2 + off, none⟩ : Addr).add (l * sz))) (hh - l) (m - l)) w := fun m q1 q2 q3 q4 => by
              have := bounds_ok (P := P) (isS := true) (len := len) (cap := cap) h1 h2 h3 hl hhh q1 hlh q2 q3 q4
              simp only [Instr.sliceAt, Instr.slice, Sem.run_bind, run_underlying hu, Result.andThen_ok, this, run_sizeOf hinfo, hsz, hse, Sem.run_pure]
              split <;> rfl
            have spot : ∀ m, (if m = l then ⟨p.1, p.2 + off, none⟩ else (⟨p.1, p.2 + off, none⟩ : Addr).add (l * sz)).spot = none := fun m => by
              split
              · rfl
              · exact Addr.spot_add rfl
            split at h
            · rename_i m0
              split at h
              · rename_i m hhs hm
                cases hb2 : (!(decide (hh ≤ m) && decide (m ≤ len))) with
                | true => rw [hb2] at h; cases h
                | false =>
                  rw [hb2, cond_false rfl] at h
                  simp only [Bool.not_eq_false', Bool.and_eq_true, decide_eq_true_eq] at hb2
                  have hm' : bnd (some m0) cap = some m := (bnd_some m0 cap 0).trans hm
                  cases hb3 : (m == hh && l == hh) with
                  | false => rw [hb3] at h; cases h
                  | true =>
                    rw [hb3, cond_true rfl] at h
                    cases h
                    simp only [Bool.and_eq_true, beq_iff_eq] at hb3
                    obtain ⟨rfl, rfl⟩ := hb3
                    have q := real _ hm' (Nat.le_refl _) (by omega) (fun _ => hhs)
                    rw [Nat.sub_self] at q
                    exact ⟨_, q, VR.nilLit _ 0 (spot _) rfl⟩
              · cases h
            · have q := real cap rfl (by omega) (Nat.le_refl _) (by simp)
              cases hb2 : (l == hh && !(l == 0)) with
              | true =>
                rw [hb2, cond_true rfl] at h
                cases h
                simp only [Bool.and_eq_true, beq_iff_eq] at hb2
                obtain ⟨rfl, -⟩ := hb2
                have sp := spot cap
                rw [Nat.sub_self] at q
                exact ⟨_, q, VR.nilLit _ _ sp trivial⟩
              | false =>
                rw [hb2, cond_false rfl] at h
                cases h
                refine ⟨_, q, ?_⟩
                have haddr : (if cap = l then ⟨p.1, p.2 + off, none⟩ else (⟨p.1, p.2 + off, none⟩ : Addr).add (l * sz)) = ⟨p.1, p.2 + (off + l * sz), none⟩ := by
                  by_cases hl0 : l = 0
                  · subst hl0; split <;> simp [Addr.plus]
                  · have hlt : l < hh := by
                      rcases Nat.lt_or_ge l hh with g | g
                      · exact g
                      · have : l = hh := by omega
                        subst this
                        simp [hl0] at hb2
                    rw [if_neg (by omega), Addr.plus, Nat.add_assoc]
                rw [haddr]
                refine .arr sz b _ _ _ _ hbn (by omega) fun p' hp' => ?_
                have : p' = p := by rw [hp1] at hp'; exact (Option.some.inj hp').symm
                subst this
                have hle : (cap - l) * sz + l * sz = cap * sz := by rw [← Nat.add_mul, Nat.sub_add_cancel (by omega)]
                refine ⟨rfl, fun j hj => ?_, by omega⟩
                have := hwho (l * sz + j) (by omega)
                rw [show p'.2 + (off + l * sz) + j = p'.2 + off + (l * sz + j) by omega]
                exact this
        · cases h
      · cases h
  · rename_i m e _ _ _ _ hti
    have hu := ty_array hT hti
    split at h
    · cases h
    · rename_i ei hei
      obtain ⟨eti, hinfo, hsz, _⟩ := ty_size hT hei
      split at h
      · rename_i b off
        split at h
        · rename_i l hh bcs hl hhh hbc
          cases hb : (!(decide (l < hh) && decide (hh ≤ m) && decide (off + m * ei.size = bcs.length))) with
          | true => rw [hb] at h; cases h
          | false =>
            rw [hb, cond_false rfl] at h
            cases h
            simp only [Bool.not_eq_false', Bool.and_eq_true, decide_eq_true_eq] at hb
            obtain ⟨⟨hlh, hhx⟩, hle⟩ := hb
            obtain ⟨p, hp1, hql, hp2⟩ := hI.blks b bcs (blkCells_eq hbc)
            cases ha with
            | ptr _ _ a hbn ha =>
              have := ha p hp1; subst this
              have hvm : vmx = none := by cases vmx with | none => rfl | some _ => exact h3.elim
              subst hvm
              have := bounds_ok (P := P) (isS := false) (len := m) (cap := m) h1 h2 h3 hl hhh (m := m) rfl (by omega) hhx (Nat.le_refl _) (by simp)
              refine ⟨.slice (some ⟨p.1, p.2 + (off + l * ei.size), none⟩) (hh - l) (m - l), ?_, ?_⟩
              · simp only [Instr.sliceAt, Sem.run_bind, run_underlying hu, Result.andThen_ok, Instr.sureAddr, Sem.run_pure, this, run_sizeOf hinfo, hsz]
                rw [if_neg (by omega), Addr.plus, Nat.add_assoc]
              · refine .arr _ b _ _ _ _ hbn (by omega) fun p' hp' => ?_
                have : p' = p := by rw [hp1] at hp'; exact (Option.some.inj hp').symm
                subst this
                have e1 : (m - l) * ei.size + l * ei.size = m * ei.size := by rw [← Nat.add_mul, Nat.sub_add_cancel (by omega)]
                refine ⟨rfl, fun j hj => ?_, by omega⟩
                have hlt : off + l * ei.size + j < bcs.length := by omega
                have := (hp2 _ _ (List.getElem?_eq_getElem hlt)).1
                rw [show p'.2 + (off + l * ei.size) + j = p'.2 + (off + l * ei.size + j) by omega]
                exact this
        · cases h
      · cases h
  · cases h

end Go.Proofs.YtkocimfdgdegfaaGreatDoor.E

namespace Go.Proofs.YtkocimfdgdegfaaGreatDoor.E
open Go Go.RowKit
variable {P : Program} {C : Cfg}

theorem chunk_ok {sz : Nat} (h0 : sz ≠ 0) : ∀ (n : Nat) (cs xs : List AV), (∀ (j : Nat) c, cs[j]? = some c → c.one = true) → chunk sz n cs = some xs →
    xs.length = n ∧ (∀ x ∈ xs, x.cells.length = sz) ∧ flat xs = cs.take (n * sz) ∧ n * sz ≤ cs.length
  | 0, cs, xs, _, h => by simp [chunk] at h; subst h; simp [flat]
  | n + 1, cs, xs, ho, h => by
    simp only [chunk] at h
    have step : ∀ x, (bif sz == 1 then cs.head? else (let c := cs.take sz; bif c.length == sz then some (AV.agg c) else none)) = some x → x.cells = cs.take sz ∧ sz ≤ cs.length := fun x hx => by
      cases hb : (sz == 1) with
      | true =>
        rw [hb, cond_true rfl] at hx
        have : sz = 1 := by simpa using hb
        subst this
        cases cs with
        | nil => simp at hx
        | cons c cs =>
          simp at hx; subst hx
          exact ⟨by rw [AV.cells_one (ho 0 _ rfl)]; simp, by simp⟩
      | false =>
        rw [hb, cond_false rfl] at hx
        dsimp only at hx
        cases hb2 : ((cs.take sz).length == sz) with
        | false => rw [hb2] at hx; cases hx
        | true =>
          rw [hb2, cond_true rfl] at hx; cases hx
          refine ⟨rfl, ?_⟩
          have : (cs.take sz).length = sz := by simpa using hb2
          simp at this; omega
    split at h
    · rename_i x hx
      obtain ⟨h1, h2⟩ := step x hx
      split at h
      · rename_i r hr
        cases h
        obtain ⟨g1, g2, g3, g4⟩ := chunk_ok h0 n (cs.drop sz) r (fun j c hc => by rw [List.getElem?_drop] at hc; exact ho _ c hc) hr
        refine ⟨by simp [g1], fun y hy => ?_, ?_, ?_⟩
        · cases hy with
          | head => rw [h1]; simp; omega
          | tail _ hy => exact g2 y hy
        · simp only [flat, h1, g3]
          rw [Nat.succ_mul, Nat.add_comm (n * sz) sz, List.take_add]
        · simp at g4; rw [Nat.succ_mul]; omega
      · cases h
    · cases h

theorem run_loadCells_of {w : World} {rb ro n : Nat} {c : Array Value} (hn : c.size = n) (h : ∀ j v, c[j]? = some v → w.cell? ⟨rb, ro + j, none⟩ = some v) : (loadCells ⟨rb, ro, none⟩ n).run P w = .ok c w := by
  subst hn
  have := run_loadCells_list (P := P) w ⟨rb, ro, none⟩ c.toList (fun j v hv => by rw [Addr.add_mid]; exact h j v (by simpa using hv))
  simpa using this

/-- cells that lie in memory, as an array -/
theorem Lies.acr {n : Nat} {L : Lay} {w : World} {cs : List AV} {rb ro : Nat} (h : Lies n L w cs rb ro) : ∃ c : Array Value, ACR n L w cs c ∧ ∀ (j : Nat) v, c[j]? = some v → w.cell? ⟨rb, ro + j, none⟩ = some v := by
  let f : Nat → Value := fun j => (w.cell? ⟨rb, ro + j, none⟩).getD default
  have hf : ∀ (j : Nat) c, cs[j]? = some c → w.cell? ⟨rb, ro + j, none⟩ = some (f j) ∧ VR n L w c (f j) := fun j c hc => by
    obtain ⟨_, rv, h1, h2⟩ := h j c hc
    have : f j = rv := by simp [f, h1]
    rw [this]; exact ⟨h1, h2⟩
  refine ⟨((List.range cs.length).map f).toArray, ⟨by simp, fun i x hx => (h i x hx).1, fun i x hx => ?_⟩, fun j v hv => ?_⟩
  · have hlt := (List.getElem?_eq_some_iff.1 hx).1
    simpa [Array.getD, hlt] using (hf i x hx).2
  · have hlt : j < cs.length := by
      have := (Array.getElem?_eq_some_iff.1 hv).1; simpa using this
    have : v = f j := by simp [hlt] at hv; exact hv.symm
    subst this
    exact (hf j _ (List.getElem?_eq_getElem hlt)).1

theorem flat_bytes : ∀ (s : List UInt8), flat (s.map fun c => AV.int .u8 c.toNat) = s.map fun c => AV.int .u8 c.toNat
  | [] => rfl
  | x :: s => by simp [flat, AV.cells, flat_bytes s]

theorem bytes_acr (n : Nat) (L : Lay) (w : World) (s : ByteArray) : ACR n L w (s.data.toList.map fun c => AV.int .u8 c.toNat) (s.data.map fun b => .int .u8 b.toNat) where
  len := by simp
  one i x hx := by
    simp only [List.getElem?_map, Option.map_eq_some_iff] at hx
    obtain ⟨c, _, rfl⟩ := hx; rfl
  vr i x hx := by
    simp only [List.getElem?_map, Option.map_eq_some_iff] at hx
    obtain ⟨c, hc, rfl⟩ := hx
    rw [Array.getElem?_toList] at hc
    rw [Array.getD_eq_getD_getElem?, Array.getElem?_map, hc]
    exact .int _ _

/-- the elements of a slice, of a text, as the model reads them -/
structure ElemsR (P : Program) (n : Nat) (L : Lay) (w : World) (sz : Nat) (xs : List AV) (v : Value) : Prop where
  sizes : ∀ x ∈ xs, x.cells.length = sz
  cells : ∃ c : Array Value, ACR n L w (flat xs) c ∧ ∀ w1 : World, (∀ a, w1.cell? a = w.cell? a) → (Builtin.firstCells sz xs.length v).run P w1 = .ok c w1
  len : ∀ w1 : World, (Builtin.lenOf v).run P w1 = .ok xs.length w1

theorem elems_ok {B : Nat} {w0 w : World} {L : Lay} {hp : List Blk} (hI : Inv C.glob B w0 L w hp) {sz : Nat} (h0 : sz ≠ 0) {x : AV} {v : Value} {xs : List AV} (h : elems hp sz x = some xs) (hv : VR hp.length L w x v) :
    ElemsR P hp.length L w sz xs v := by
  unfold elems at h
  cases hv <;> simp only [reduceCtorEq] at h
  case nilS =>
    cases h
    exact ⟨fun x hx => (by cases hx), ⟨#[], ⟨rfl, fun i x hx => by simp [flat] at hx, fun i x hx => by simp [flat] at hx⟩, fun w1 _ => rfl⟩, fun _ => rfl⟩
  case lit s own ys rb ro cap cv hc hs h1 ho h2 hown =>
    cases hb : (s == sz) with
    | false => rw [hb] at h; cases h
    | true =>
      rw [hb, cond_true rfl] at h; cases h
      have : s = sz := by simpa using hb
      subst this
      have hfl := flat_length xs hs
      have hl : Lies hp.length L w (flat xs) rb ro := fun j c hj => ⟨ho j c hj, cv j, (h1 j (by rw [← hfl]; exact (List.getElem?_eq_some_iff.1 hj).1)).1, h2 j c hj⟩
      obtain ⟨c, g1, g2⟩ := hl.acr
      refine ⟨hs, ⟨c, g1, fun w1 hw1 => ?_⟩, fun _ => rfl⟩
      exact run_loadCells_of (by rw [g1.len, hfl]) fun j v hv => by rw [hw1]; exact g2 j v hv
  case arr s b off len a cap hbn hc ha =>
    cases hb : (s == sz) with
    | false => rw [hb] at h; cases h
    | true =>
      rw [hb, cond_true rfl] at h
      have : s = sz := by simpa using hb
      subst this
      split at h
      · rename_i cs hcs
        obtain ⟨p, hp1, hl⟩ := hI.lies (blkCells_eq hcs)
        obtain ⟨rfl, _, _⟩ := ha p hp1
        have ho : ∀ (j : Nat) c, (cs.drop off)[j]? = some c → c.one = true := fun j c hj => by
          rw [List.getElem?_drop] at hj; exact (hl _ c hj).1
        obtain ⟨g1, g2, g3, g4⟩ := chunk_ok h0 len _ xs ho h
        have hl2 : Lies hp.length L w (flat xs) p.1 (p.2 + off) := fun j c hj => by
          rw [g3] at hj
          have hlt : j < len * s := by have := (List.getElem?_eq_some_iff.1 hj).1; simp at this; omega
          rw [List.getElem?_take_of_lt hlt, List.getElem?_drop] at hj
          have := hl _ c hj
          rw [← Nat.add_assoc] at this; exact this
        obtain ⟨c, k1, k2⟩ := hl2.acr
        refine ⟨g2, ⟨c, k1, fun w1 hw1 => ?_⟩, fun _ => by rw [g1]; rfl⟩
        rw [g1]
        exact run_loadCells_of (by rw [k1.len, flat_length xs g2, g1]) fun j v hv => by rw [hw1]; exact k2 j v hv
      · cases h
  case str l s hs =>
    cases hb : (sz == 1) with
    | false => rw [hb] at h; cases h
    | true =>
      rw [hb, cond_true rfl] at h; cases h
      have : sz = 1 := by simpa using hb
      subst this; subst hs
      have hz : s.size = s.data.toList.length := by rw [Array.length_toList]; rfl
      refine ⟨fun x hx => ?_, ⟨s.data.map fun b => .int .u8 b.toNat, by rw [flat_bytes]; exact bytes_acr _ L w s, fun w1 _ => ?_⟩, fun _ => ?_⟩
      · obtain ⟨c, _, rfl⟩ := List.mem_map.1 hx; rfl
      · have : s.extract 0 (List.map (fun c => AV.int IntKind.u8 ↑c.toNat) s.data.toList).length = s := by
          rw [List.length_map, ← hz]
          exact ByteArray.extract_zero_size
        simp only [Builtin.firstCells, this]
        rfl
      · show Result.ok s.size _ = _
        rw [hz, List.length_map]

end Go.Proofs.YtkocimfdgdegfaaGreatDoor.E

namespace Go.Proofs.YtkocimfdgdegfaaGreatDoor.E
open Go Go.RowKit
variable {P : Program} {C : Cfg}

/-- what is appended, as the model reads it -/
structure AppR (P : Program) (n : Nat) (L : Lay) (w : World) (i : TypeInfo) (t2 : TypeId) (xs : List AV) (v : Value) : Prop where
  sizes : ∀ x ∈ xs, x.cells.length = i.size
  run : ∃ c : Array Value, ACR n L w (flat xs) c ∧
    ((∃ d, P.underlying t2 = some d ∧ (∀ k, d ≠ .int k) ∧ (∀ w1, (Builtin.lenOf v).run P w1 = .ok xs.length w1) ∧ (∀ w1 : World, (∀ a, w1.cell? a = w.cell? a) → (Builtin.firstCells i.size xs.length v).run P w1 = .ok c w1)) ∨
     (∃ k k' m z, P.underlying t2 = some (.int k') ∧ v = .int k m ∧ IntKind.i64.wrap m = xs.length ∧ (xs.length : Int) * (i.bytes : Int) ≤ 2 ^ 48 ∧ i.zero = some z ∧
        ((xs.length * i.size = 0 ∧ c = #[]) ∨ (xs.length * i.size ≠ 0 ∧ c = Builtin.zeroCells z.cells xs.length))))

theorem valOf_cells {ei : TI} {z : AV} (h : valOf ei ei.zero = some z) (ho : allOne ei.zero = true) (hl : ei.zero.length = ei.size) (hz : z.cells.length = ei.size) : z.cells = ei.zero := by
  unfold valOf at h
  cases ha : ei.k.agg with
  | false =>
    have h1 := part_one ha h
    have hone := allOne_mem ho _ _ h1
    rw [AV.cells_one hone] at hz ⊢
    have : ei.size = 1 := by simpa using hz.symm
    rw [this] at hl
    match hq : ei.zero, hl with
    | [y], _ => rw [hq] at h1; simp at h1; rw [h1]
  | true =>
    obtain ⟨rfl, _⟩ := part_agg ha h
    simp [AV.cells, ← hl]

theorem appElems_ok {B : Nat} {w0 w : World} {L : Lay} {hp : List Blk} (hT : TysOK P C) (hI : Inv C.glob B w0 L w hp) {e t2 : TypeId} {ei : TI} {i : TypeInfo} (hei : C.ty e = some ei) (hinfo : P.info? e = some i) (h0 : ei.size ≠ 0) {x : AV} {v : Value} {xs : List AV}
    (h : appElems C hp ei t2 x = some xs) (hv : VR hp.length L w x v) : AppR P hp.length L w i t2 xs v := by
  obtain ⟨i', ed, zv, hinfo', hed, hsz, hby, hek, hzi, hzs, hzl, hzo, _, _⟩ := (hT _ _ hei).ex
  rw [hinfo] at hinfo'; cases hinfo'
  unfold appElems at h
  split at h
  · rename_i hti
    have hu := ty_int hT hti
    split at h
    · rename_i k m z hz
      cases hb : (decide (0 ≤ m) && decide (m * ei.bytes ≤ 35184372088832) && decide (m ≤ 35184372088832) && z.cells.length == ei.size) with
      | false => rw [hb] at h; cases h
      | true =>
        rw [hb, cond_true rfl] at h; cases h
        simp only [Bool.and_eq_true, decide_eq_true_eq, beq_iff_eq] at hb
        obtain ⟨⟨⟨hm0, hmb⟩, hmm⟩, hzl2⟩ := hb
        have hz0 := zero_ok hp.length L w hzs hzo
        have hzl3 : ei.zero.length = ei.size := by rw [← hz0.len, hzl]
        have hzc := valOf_cells hz hzo hzl3 hzl2
        have hzne : zv.cells.size ≠ 0 := by rw [hzl]; exact h0
        cases hv
        have hwrap : IntKind.i64.wrap m = m := by
          unfold IntKind.wrap
          simp [IntKind.signed, IntKind.bits]
          omega
        have hmlen : (List.replicate m.toNat z).length = m.toNat := by simp
        refine ⟨fun x hx => by rw [(List.mem_replicate.1 hx).2, hsz]; exact hzl2, (Array.range (m.toNat * zv.cells.size)).map (zv.cells[· % zv.cells.size]!), ?_, .inr ⟨_, _, m, zv, hu, rfl, ?_, ?_, hzi, ?_⟩⟩
        · rw [flat_replicate, hzc]; exact rep_ok hz0 _ hzne
        · rw [hwrap, hmlen]; omega
        · rw [hmlen, hby, Int.toNat_of_nonneg hm0]; omega
        · rw [hmlen]
          by_cases hq : m.toNat * i.size = 0
          · refine .inl ⟨hq, ?_⟩
            have : m.toNat = 0 := by
              rcases Nat.mul_eq_zero.1 hq with g | g
              · exact g
              · omega
            simp [this]
          · exact .inr ⟨hq, rfl⟩
    · cases h
  · rename_i e2 _ _ _ _ hti
    have hu := ty_slice hT hti
    obtain ⟨g1, ⟨c, g2, g3⟩, g4⟩ := elems_ok (P := P) hI h0 h hv
    exact ⟨fun x hx => by rw [hsz]; exact g1 x hx, c, g2, .inl ⟨_, hu, fun k hk => (by cases hk), g4, fun w1 hw1 => by rw [hsz]; exact g3 w1 hw1⟩⟩
  · rename_i hti
    have hu := ty_string hT hti
    obtain ⟨g1, ⟨c, g2, g3⟩, g4⟩ := elems_ok (P := P) hI h0 h hv
    exact ⟨fun x hx => by rw [hsz]; exact g1 x hx, c, g2, .inl ⟨_, hu, fun k hk => (by cases hk), g4, fun w1 hw1 => by rw [hsz]; exact g3 w1 hw1⟩⟩
  · cases h

/-- within the capacity -/
theorem run_append_in {n : Nat} {L : Lay} {w : World} {t t2 e : TypeId} {ts : List TypeId} {ty : TypeId} {i : TypeInfo} {xs : List AV} {v : Value} (hu : P.underlying t = some (.slice e)) (hi : P.info? e = some i) (hx : AppR P n L w i t2 xs v)
    {base : Option Addr} {sLen sCap : Nat} (hle : sLen + xs.length ≤ sCap) :
    ∃ c, ACR n L w (flat xs) c ∧ (Builtin.append_ (t :: t2 :: ts).toArray ty #[.slice base sLen sCap, v]).run P w =
      (match base with
        | some a => (storeCells (a.add (sLen * i.size)) c.toList).run P w
        | none => .ok () w).andThen fun _ w' => .ok (.slice base (sLen + xs.length) sCap) w' := by
  obtain ⟨c, h1, h2⟩ := hx.run
  refine ⟨c, h1, ?_⟩
  rcases h2 with ⟨d, hu2, hni, hlen, hfirst⟩ | ⟨k, k', m, z, hu2, rfl, hm, hb, hz, hc⟩
  · have hf := hfirst w fun _ => rfl
    cases base with
    | none => simp [Builtin.append_, run_underlying hu, run_underlying hu2, run_sizeOf hi, hlen, hle, hf]
    | some a => simp [Builtin.append_, run_underlying hu, run_underlying hu2, run_sizeOf hi, hlen, hle, hf]
  · have h0 : ¬ ((xs.length : Int) < 0) := by omega
    have hb' : ¬ ((281474976710656 : Int) < (xs.length : Int) * (i.bytes : Int)) := by omega
    rcases hc with ⟨hc, rfl⟩ | ⟨hc, rfl⟩
    · cases base with
      | none => simp [Builtin.append_, run_underlying hu, run_underlying hu2, run_sizeOf hi, run_typeInfo hi, asInt, asIntOf, hm, h0, hb', hle, hc]
      | some a => simp [Builtin.append_, run_underlying hu, run_underlying hu2, run_sizeOf hi, run_typeInfo hi, asInt, asIntOf, hm, h0, hb', hle, hc]
    · cases base with
      | none => simp [Builtin.append_, run_underlying hu, run_underlying hu2, run_sizeOf hi, run_typeInfo hi, asInt, asIntOf, hm, h0, hb', hle, run_zeroValue hi hz]
      | some a => simp [Builtin.append_, run_underlying hu, run_underlying hu2, run_sizeOf hi, run_typeInfo hi, asInt, asIntOf, hm, h0, hb', hle, hc, run_zeroValue hi hz]

/-- past the capacity -/
theorem run_append_new {n : Nat} {L : Lay} {w : World} {t t2 e : TypeId} {ts : List TypeId} {ty : TypeId} {i : TypeInfo} {xs ys : List AV} {v : Value} {zv : Value} (hu : P.underlying t = some (.slice e)) (hi : P.info? e = some i) (hzi : i.zero = some zv)
    (hx : AppR P n L w i t2 xs v) {base : Option Addr} {sLen sCap : Nat} (hs : ElemsR P n L w i.size ys (.slice base sLen sCap)) (hy : ys.length = sLen) (hgt : sCap < sLen + xs.length) (hb : (sLen + xs.length) * i.bytes ≤ 35184372088832) (hb0 : i.bytes ≠ 0) :
    ∃ (c : Array Value) (cap : Nat), ACR n L w (flat (ys ++ xs)) c ∧ sLen + xs.length ≤ cap ∧ ∃ rest : Array Value, rest.size = (cap - (sLen + xs.length)) * zv.cells.size ∧
      (Builtin.append_ (t :: t2 :: ts).toArray ty #[.slice base sLen sCap, v]).run P w = .ok (.slice (some ⟨w.heap.size, 0, none⟩) (sLen + xs.length) cap) (w.drew.alloc (.cells (c ++ rest) e)) := by
  subst hy
  obtain ⟨c, h1, h2⟩ := hx.run
  obtain ⟨c0, g1, g2⟩ := hs.cells
  have hneed : ys.length + xs.length ≤ 35184372088832 := by
    have := Nat.le_mul_of_pos_right (ys.length + xs.length) (Nat.pos_of_ne_zero hb0); omega
  have hcap := nextslicecap_le (need := ys.length + xs.length) (old := sCap) hgt
  have hfits : ¬ (281474976710656 < Builtin.nextslicecap (ys.length + xs.length) sCap * i.bytes) := by
    have := Nat.mul_le_mul_right i.bytes hcap
    rw [Nat.mul_assoc] at this
    omega
  have hmax : ¬ ((9223372036854775807 : Int) < (ys.length : Int) + (xs.length : Int)) := by omega
  have hm64 : IntKind.i64.max = 9223372036854775807 := rfl
  let cap := (ys.length + xs.length) + w.tape w.drawn (.appendCap (ys.length + xs.length) sCap e) % (2 ^ 63 - (ys.length + xs.length))
  have hle : ¬ (ys.length + xs.length ≤ sCap) := by omega
  have hold : (Builtin.firstCells i.size ys.length (.slice base ys.length sCap)).run P w.drew = .ok c0 w.drew := g2 w.drew fun _ => rfl
  refine ⟨c0 ++ c, cap, ?_, Nat.le_add_right _ _, Builtin.zeroCells zv.cells (cap - (ys.length + xs.length)), by simp [Builtin.zeroCells], ?_⟩
  · rw [flat_append]
    refine ⟨by simp [g1.len, h1.len], fun j x hj => ?_, fun j x hj => ?_⟩
    · rw [List.getElem?_append] at hj
      split at hj
      · exact g1.one _ _ hj
      · exact h1.one _ _ hj
    · rw [List.getElem?_append] at hj
      rw [Array.getD_eq_getD_getElem?, Array.getElem?_append, g1.len]
      split at hj
      · rename_i hlt
        rw [if_pos hlt]
        have := g1.vr _ _ hj; rwa [Array.getD_eq_getD_getElem?] at this
      · rename_i hlt
        rw [if_neg hlt]
        have := h1.vr _ _ hj; rwa [Array.getD_eq_getD_getElem?] at this
  · rcases h2 with ⟨d, hu2, hni, hlen, hfirst⟩ | ⟨k, k', m, z, hu2, rfl, hm, hb, hz, hc⟩
    · have hf := hfirst w.drew fun _ => rfl
      simp [Builtin.append_, run_underlying hu, run_underlying hu2, run_sizeOf hi, run_typeInfo hi, hlen, hle, hf, hmax, hm64, hfits, hold, run_zeroValue hi hzi, Question.forced, Question.cut, run_newRow, cap]
    · have h0 : ¬ ((xs.length : Int) < 0) := by omega
      have hb' : ¬ ((281474976710656 : Int) < (xs.length : Int) * (i.bytes : Int)) := by omega
      rw [hz] at hzi; cases hzi
      rcases hc with ⟨hc, rfl⟩ | ⟨hc, rfl⟩
      · simp [Builtin.append_, run_underlying hu, run_underlying hu2, run_sizeOf hi, run_typeInfo hi, asInt, asIntOf, hm, h0, hb', hle, hc, hmax, hm64, hfits, hold, run_zeroValue hi hz, Question.forced, Question.cut, run_newRow, cap]
      · simp [Builtin.append_, run_underlying hu, run_underlying hu2, run_sizeOf hi, run_typeInfo hi, asInt, asIntOf, hm, h0, hb', hle, hc, hmax, hm64, hfits, hold, run_zeroValue hi hz, Question.forced, Question.cut, run_newRow, cap]

end Go.Proofs.YtkocimfdgdegfaaGreatDoor.E

namespace Go.Proofs.YtkocimfdgdegfaaGreatDoor.E
open Go Go.RowKit
variable {P : Program} {C : Cfg}

theorem alloc_drew (w : World) (c : Array Value) (t : TypeId) : Alloc w (w.drew.alloc (.cells c t)) c :=
  let h := alloc_alloc w.drew c t
  ⟨h.size, h.old, h.new, h.fro, fun _ _ hB hb => (hb.drew).alloc hB _⟩

/-- A new row, part of which is never written to; the rest is its family's. -/
theorem Inv.addFam {glob : Nat → Option AV} {B : Nat} {w0 : World} {hp : List Blk} {L : Lay} {w w' : World} {c : Array Value} (hI : Inv glob B w0 L w hp) (h : Alloc w w' c) (m sz cap : Nat) (hmc : m ≤ cap) (hc : c.size = cap * sz) :
    ∃ L', L'.fam hp.length = some ⟨m, sz, 0, w.heap.size, 0, cap⟩ ∧ (∀ o, o < m * sz → L'.who w.heap.size o = .imm) ∧
      Inv glob B w0 L' w' (hp ++ [.fam m]) ∧ Ext hp.length L w L' w' ∧ ∀ s, KeepLoc s L w L' w' := by
  let L' : Lay := { L.add w.heap.size (fun o => if o < m * sz then .imm else if o < cap * sz then .spare hp.length else .none) with fam := fun b => if b = hp.length then some ⟨m, sz, 0, w.heap.size, 0, cap⟩ else L.fam b }
  have who : ∀ r o, r < w.heap.size → L'.who r o = L.who r o := fun r o hr => by
    have hrn : r ≠ w.heap.size := Nat.ne_of_lt hr
    exact if_neg hrn
  have whoN : ∀ o, L'.who w.heap.size o = if o < m * sz then .imm else if o < cap * sz then .spare hp.length else .none := fun o => if_pos rfl
  obtain ⟨he, hk⟩ := h.ext (L' := L') (n := hp.length) hI (fun r o hr => if_neg hr) (fun b hb => ⟨rfl, rfl⟩) (fun b hb => if_neg (by omega))
  have hlen : (hp ++ [Blk.fam m]).length = hp.length + 1 := by simp
  have hle : m * sz ≤ cap * sz := Nat.mul_le_mul_right _ hmc
  refine ⟨L', if_pos rfl, fun o ho => (whoN o).trans (if_pos ho), ⟨h.below B w0 hI.size hI.below, by have := hI.size; rw [h.size]; omega, ?_, ?_, ?_, ?_, ?_, ?_, ?_, ?_⟩, he, hk⟩
  · intro b cs2 hb
    have hb' : hp[b]? = some (.cells cs2) := by
      have hlt := (List.getElem?_eq_some_iff.1 hb).1
      rw [hlen] at hlt
      by_cases hbn : b = hp.length
      · subst hbn; rw [List.getElem?_append_right (Nat.le_refl _)] at hb; simp at hb
      · rw [← hb, List.getElem?_append_left]; omega
    rw [hlen]
    obtain ⟨p, hp1, hql, h2⟩ := hI.blks b cs2 hb'
    refine ⟨p, hp1, hql, fun j x hx => ?_⟩
    obtain ⟨h3, ho, rv, h4, h5⟩ := h2 j x hx
    have hlt := cell_lt ⟨rv, h4⟩
    exact ⟨(who _ _ hlt).trans h3, ho, rv, ((h.old ⟨p.1, p.2 + j, none⟩ hlt).1).trans h4, h5.mono (by omega) he⟩
  · intro r o b hr
    by_cases hn : r = w.heap.size
    · subst hn
      rw [whoN] at hr
      split at hr
      · cases hr
      · split at hr <;> cases hr
    · have hr' : L.who r o = .blk b := by rw [← hr]; exact (if_neg hn).symm
      obtain ⟨h1, ⟨v, h2⟩, h3⟩ := hI.own r o b hr'
      have hlt := cell_lt ⟨v, h2⟩
      exact ⟨h1, ⟨v, ((h.old ⟨r, o, none⟩ hlt).1).trans h2⟩, ((h.old ⟨r, o, none⟩ hlt).2).trans h3⟩
  · intro g m' hg
    have hlt := (List.getElem?_eq_some_iff.1 hg).1
    rw [hlen] at hlt
    by_cases hgn : g = hp.length
    · subst hgn
      rw [List.getElem?_append_right (Nat.le_refl _)] at hg
      simp at hg
      subst hg
      refine ⟨_, if_pos rfl, rfl, Nat.zero_le _, hmc, fun j h1 h2 => ?_⟩
      show L'.who w.heap.size (0 + j) = _
      simp only [Nat.sub_zero] at h1 h2
      rw [Nat.zero_add, whoN, if_neg (by omega), if_pos h2]
    · have hg' : hp[g]? = some (.fam m') := by rw [← hg, List.getElem?_append_left]; omega
      obtain ⟨F, h1, h2, h3, h4, h5⟩ := hI.fams g m' hg'
      refine ⟨F, by show (if g = hp.length then _ else _) = _; rw [if_neg hgn]; exact h1, h2, h3, h4, fun j hj1 hj2 => ?_⟩
      have := h5 j hj1 hj2
      exact (who _ _ (hI.lt (by rw [this]; simp))).trans this
  · intro r o g hr
    by_cases hn : r = w.heap.size
    · subst hn
      rw [whoN] at hr
      split at hr
      · cases hr
      · split at hr
        · rename_i ho
          exact ⟨hI.size, ⟨c[o]'(by omega), by rw [h.new]; simp [show o < c.size by omega]⟩, h.fro o (by omega)⟩
        · cases hr
    · have hr' : L.who r o = .spare g := by rw [← hr]; exact (if_neg hn).symm
      obtain ⟨h1, ⟨v, h2⟩, h3⟩ := hI.spare r o g hr'
      have hlt := cell_lt ⟨v, h2⟩
      exact ⟨h1, ⟨v, ((h.old ⟨r, o, none⟩ hlt).1).trans h2⟩, ((h.old ⟨r, o, none⟩ hlt).2).trans h3⟩
  · intro r o hr
    rw [h.size] at hr
    have hrn : r ≠ w.heap.size := by omega
    have : L'.who r o = L.who r o := if_neg hrn
    rw [this]
    exact hI.fresh r o (by omega)
  · intro b hb; rw [hlen] at hb; exact hI.noLoc b (by omega)
  · intro b hb
    rw [hlen] at hb
    show (if b = hp.length then _ else _) = _
    rw [if_neg (by omega)]
    exact hI.noFam b (by omega)
  · intro g v hg; exact (hI.globs g v hg).mono (Nat.le_refl _) (he.less (Nat.zero_le _))

/-- A family's row moves: a new row takes the old one's place. -/
theorem Inv.moveFam {glob : Nat → Option AV} {B : Nat} {w0 : World} {hp : List Blk} {L : Lay} {w w' : World} {c : Array Value} (hI : Inv glob B w0 L w hp) (h : Alloc w w' c) {g m0 : Nat} (hg : hp[g]? = some (.fam m0)) (st m sz cap : Nat) (hm0 : m0 < m) (hst : st ≤ m) (hmc : m ≤ st + cap) (hc : c.size = cap * sz) :
    ∃ L', L'.fam g = some ⟨m, sz, st, w.heap.size, 0, st + cap⟩ ∧ (∀ o, o < (m - st) * sz → L'.who w.heap.size o = .imm) ∧
      Inv glob B w0 L' w' (hp.set g (.fam m)) ∧ Ext hp.length L w L' w' ∧ ∀ s, KeepLoc s L w L' w' := by
  let L' : Lay := { L.add w.heap.size (fun o => if o < (m - st) * sz then .imm else if o < cap * sz then .spare g else .none) with fam := fun b => if b = g then some ⟨m, sz, st, w.heap.size, 0, st + cap⟩ else L.fam b }
  have who : ∀ r o, r < w.heap.size → L'.who r o = L.who r o := fun r o hr => by
    have hrn : r ≠ w.heap.size := Nat.ne_of_lt hr
    exact if_neg hrn
  have whoN : ∀ o, L'.who w.heap.size o = if o < (m - st) * sz then .imm else if o < cap * sz then .spare g else .none := fun o => if_pos rfl
  have hgl := (List.getElem?_eq_some_iff.1 hg).1
  obtain ⟨F0, hF0, hFm, _, _, _⟩ := hI.fams g m0 hg
  have hle : (m - st) * sz ≤ cap * sz := Nat.mul_le_mul_right _ (by omega)
  have same : ∀ r o, L.who r o ≠ .none → L'.who r o = L.who r o ∧ w'.cell? ⟨r, o, none⟩ = w.cell? ⟨r, o, none⟩ ∧ w'.frozen? ⟨r, o, none⟩ = w.frozen? ⟨r, o, none⟩ := fun r o hr => by
    have := hI.lt hr
    exact ⟨who r o this, (h.old ⟨r, o, none⟩ this).1, (h.old ⟨r, o, none⟩ this).2⟩
  have he : Ext hp.length L w L' w' := by
    refine ⟨fun r o hr => ?_, fun b p hb hp => ?_, fun g' F hg' hF => ?_⟩
    · obtain ⟨h1, h2, _⟩ := same r o (by rw [hr]; simp); exact ⟨h1.trans hr, h2⟩
    · exact ⟨hp, fun r o hr => by obtain ⟨h1, _, _⟩ := same r o (by rw [hr]; simp); exact h1.trans hr, rfl⟩
    · by_cases hgg : g' = g
      · subst hgg
        have : F = ⟨m, sz, st, w.heap.size, 0, st + cap⟩ := by
          have h2 : L'.fam g' = some ⟨m, sz, st, w.heap.size, 0, st + cap⟩ := if_pos rfl
          rw [h2] at hF; exact (Option.some.inj hF).symm
        subst this
        exact ⟨F0, hF0, .inr (by show F0.mark < m; omega)⟩
      · have h2 : L'.fam g' = L.fam g' := if_neg hgg
        rw [h2] at hF
        exact ⟨F, hF, .inl rfl⟩
  have hk : ∀ s, KeepLoc s L w L' w' := fun s r o t _ hl => by
    obtain ⟨h1, h2, h3⟩ := same r o (by rw [hl]; simp); exact ⟨h1.trans hl, h2, h3⟩
  refine ⟨L', if_pos rfl, fun o ho => (whoN o).trans (if_pos ho), ⟨h.below B w0 hI.size hI.below, by have := hI.size; rw [h.size]; omega, ?_, ?_, ?_, ?_, ?_, ?_, ?_, ?_⟩, he, hk⟩
  · intro b cs2 hb
    have hb' : hp[b]? = some (.cells cs2) := by
      by_cases hbg : g = b
      · subst hbg; rw [List.getElem?_set_self hgl] at hb; cases hb
      · rw [List.getElem?_set_ne hbg] at hb; exact hb
    rw [List.length_set]
    obtain ⟨p, hp1, hql, h2⟩ := hI.blks b cs2 hb'
    refine ⟨p, hp1, hql, fun j x hx => ?_⟩
    obtain ⟨h3, ho, rv, h4, h5⟩ := h2 j x hx
    have hlt := cell_lt ⟨rv, h4⟩
    exact ⟨(who _ _ hlt).trans h3, ho, rv, ((h.old ⟨p.1, p.2 + j, none⟩ hlt).1).trans h4, h5.mono (Nat.le_refl _) he⟩
  · intro r o b hr
    by_cases hn : r = w.heap.size
    · subst hn
      rw [whoN] at hr
      split at hr
      · cases hr
      · split at hr <;> cases hr
    · have hr' : L.who r o = .blk b := by rw [← hr]; exact (if_neg hn).symm
      obtain ⟨h1, ⟨v, h2⟩, h3⟩ := hI.own r o b hr'
      have hlt := cell_lt ⟨v, h2⟩
      exact ⟨h1, ⟨v, ((h.old ⟨r, o, none⟩ hlt).1).trans h2⟩, ((h.old ⟨r, o, none⟩ hlt).2).trans h3⟩
  · intro g' m' hg'
    by_cases hgg : g = g'
    · subst hgg
      rw [List.getElem?_set_self hgl] at hg'
      cases hg'
      refine ⟨_, if_pos rfl, rfl, hst, hmc, fun j h1 h2 => ?_⟩
      show L'.who w.heap.size (0 + j) = _
      have e : st + cap - st = cap := by omega
      simp only [e] at h2
      rw [Nat.zero_add, whoN, if_neg (by simpa using h1), if_pos h2]
    · rw [List.getElem?_set_ne hgg] at hg'
      obtain ⟨F, h1, h2, h3, h4, h5⟩ := hI.fams g' m' hg'
      refine ⟨F, by show (if g' = g then _ else _) = _; rw [if_neg (fun e => hgg e.symm)]; exact h1, h2, h3, h4, fun j hj1 hj2 => ?_⟩
      have := h5 j hj1 hj2
      exact (who _ _ (hI.lt (by rw [this]; simp))).trans this
  · intro r o g' hr
    by_cases hn : r = w.heap.size
    · subst hn
      rw [whoN] at hr
      split at hr
      · cases hr
      · split at hr
        · rename_i ho
          exact ⟨hI.size, ⟨c[o]'(by omega), by rw [h.new]; simp [show o < c.size by omega]⟩, h.fro o (by omega)⟩
        · cases hr
    · have hr' : L.who r o = .spare g' := by rw [← hr]; exact (if_neg hn).symm
      obtain ⟨h1, ⟨v, h2⟩, h3⟩ := hI.spare r o g' hr'
      have hlt := cell_lt ⟨v, h2⟩
      exact ⟨h1, ⟨v, ((h.old ⟨r, o, none⟩ hlt).1).trans h2⟩, ((h.old ⟨r, o, none⟩ hlt).2).trans h3⟩
  · intro r o hr
    rw [h.size] at hr
    have hrn : r ≠ w.heap.size := by omega
    have : L'.who r o = L.who r o := if_neg hrn
    rw [this]
    exact hI.fresh r o (by omega)
  · intro b hb; rw [List.length_set] at hb; exact hI.noLoc b hb
  · intro b hb
    rw [List.length_set] at hb
    show (if b = g then _ else _) = _
    rw [if_neg (by omega)]
    exact hI.noFam b hb
  · intro g' v hg'; exact (hI.globs g' v hg').mono (Nat.le_refl _) (he.less (Nat.zero_le _))

/-- A family's row grows within its capacity. -/
theorem Inv.growFam {glob : Nat → Option AV} {B : Nat} {w0 : World} {hp : List Blk} {L : Lay} {w w' : World} (hI : Inv glob B w0 L w hp) {g m0 : Nat} {F : FamL} (hg : hp[g]? = some (.fam m0)) (hF : L.fam g = some F) (hFm : F.mark = m0) {k : Nat} (hk0 : 0 < k) (hmk : m0 + k ≤ F.en)
    {vs : List Value} (hvs : vs.length = k * F.sz) (hw : Wrote w w' F.rb (F.ro + (m0 - F.st) * F.sz) vs) :
    ∃ L', L'.fam g = some { F with mark := m0 + k } ∧ (∀ j, j < k * F.sz → L'.who F.rb (F.ro + (m0 - F.st) * F.sz + j) = .imm) ∧ (∀ r o, L.who r o = .imm → L'.who r o = .imm) ∧
      Inv glob B w0 L' w' (hp.set g (.fam (m0 + k))) ∧ Ext hp.length L w L' w' ∧ ∀ s, KeepLoc s L w L' w' := by
  obtain ⟨F', hF', hm', hst, hen, hsp⟩ := hI.fams g m0 hg
  rw [hF] at hF'; cases hF'
  have hgl := (List.getElem?_eq_some_iff.1 hg).1
  let inr : Nat → Nat → Prop := fun r o => r = F.rb ∧ F.ro + (m0 - F.st) * F.sz ≤ o ∧ o < F.ro + (m0 - F.st) * F.sz + k * F.sz
  have hdec : ∀ r o, Decidable (inr r o) := fun r o => inferInstanceAs (Decidable (_ ∧ _ ∧ _))
  let L' : Lay := { L with who := fun r o => if inr r o then .imm else L.who r o, fam := fun b => if b = g then some { F with mark := m0 + k } else L.fam b }
  have hmul : (m0 - F.st) * F.sz + k * F.sz ≤ (F.en - F.st) * F.sz := by rw [← Nat.add_mul]; exact Nat.mul_le_mul_right _ (by omega)
  have hwas : ∀ r o, inr r o → L.who r o = .spare g := fun r o ⟨h1, h2, h3⟩ => by
    subst h1
    have := hsp (o - F.ro) (by omega) (by omega)
    rwa [show F.ro + (o - F.ro) = o by omega] at this
  have who : ∀ r o, ¬ inr r o → L'.who r o = L.who r o := fun r o h => if_neg h
  have whoI : ∀ r o, inr r o → L'.who r o = .imm := fun r o h => if_pos h
  have outs : ∀ r o, ¬ inr r o → w'.cell? ⟨r, o, none⟩ = w.cell? ⟨r, o, none⟩ := fun r o h => hw.out r o fun e => by
    rw [hvs]
    rcases Nat.lt_or_ge o (F.ro + (m0 - F.st) * F.sz) with h1 | h1
    · exact .inl h1
    · rcases Nat.lt_or_ge o (F.ro + (m0 - F.st) * F.sz + k * F.sz) with h2 | h2
      · exact absurd ⟨e, h1, h2⟩ h
      · exact .inr h2
  have notIn : ∀ r o x, L.who r o = x → x ≠ .spare g → ¬ inr r o := fun r o x h1 h2 h3 => h2 (by rw [← h1]; exact hwas r o h3)
  have he : Ext hp.length L w L' w' := by
    refine ⟨fun r o hr => ?_, fun b p _ hp => ⟨hp, fun r o hr => ?_, rfl⟩, fun g' F2 _ hF2 => ?_⟩
    · have := notIn r o _ hr (by simp)
      exact ⟨(who r o this).trans hr, outs r o this⟩
    · exact (who r o (notIn r o _ hr (by simp))).trans hr
    · by_cases hgg : g' = g
      · subst hgg
        have h2 : L'.fam g' = some { F with mark := m0 + k } := if_pos rfl
        rw [h2] at hF2; cases hF2
        exact ⟨F, hF, .inr (by show F.mark < m0 + k; omega)⟩
      · have h2 : L'.fam g' = L.fam g' := if_neg hgg
        rw [h2] at hF2
        exact ⟨F2, hF2, .inl rfl⟩
  have hk : ∀ s, KeepLoc s L w L' w' := fun s r o t _ hl => by
    have := notIn r o _ hl (by simp)
    exact ⟨(who r o this).trans hl, outs r o this, hw.fro _⟩
  refine ⟨L', if_pos rfl, fun j hj => whoI _ _ ⟨rfl, by omega, by omega⟩, fun r o h => (he.imm r o h).1, ⟨?_, by rw [hw.size]; exact hI.size, ?_, ?_, ?_, ?_, ?_, ?_, ?_, ?_⟩, he, hk⟩
  · exact hw.below B w0 (fun hz => by
      have : 0 < vs.length := List.length_pos_iff.2 hz
      have h1 := hwas F.rb (F.ro + (m0 - F.st) * F.sz) ⟨rfl, by omega, by omega⟩
      exact (hI.spare _ _ _ h1).1) hI.below
  · intro b cs2 hb
    have hb' : hp[b]? = some (.cells cs2) := by
      by_cases hbg : g = b
      · subst hbg; rw [List.getElem?_set_self hgl] at hb; cases hb
      · rw [List.getElem?_set_ne hbg] at hb; exact hb
    rw [List.length_set]
    obtain ⟨p, hp1, hql, h2⟩ := hI.blks b cs2 hb'
    refine ⟨p, hp1, hql, fun j x hx => ?_⟩
    obtain ⟨h3, ho, rv, h4, h5⟩ := h2 j x hx
    have hni := notIn _ _ _ h3 (by simp)
    exact ⟨(who _ _ hni).trans h3, ho, rv, (outs _ _ hni).trans h4, h5.mono (Nat.le_refl _) he⟩
  · intro r o b hr
    have hni : ¬ inr r o := fun h => by rw [whoI r o h] at hr; cases hr
    rw [who r o hni] at hr
    obtain ⟨h1, h2, h3⟩ := hI.own r o b hr
    exact ⟨h1, hw.some h2, by rw [hw.fro]; exact h3⟩
  · intro g' m' hg'
    by_cases hgg : g = g'
    · subst hgg
      rw [List.getElem?_set_self hgl] at hg'
      cases hg'
      refine ⟨_, if_pos rfl, rfl, by show F.st ≤ m0 + k; omega, hmk, fun j h1 h2 => ?_⟩
      simp only at h1 h2 ⊢
      have e : m0 + k - F.st = (m0 - F.st) + k := by omega
      rw [e, Nat.add_mul] at h1
      have hni : ¬ inr F.rb (F.ro + j) := fun ⟨_, _, h3⟩ => by omega
      rw [who _ _ hni]
      exact hsp j (by omega) h2
    · rw [List.getElem?_set_ne hgg] at hg'
      obtain ⟨F2, h1, h2, h3, h4, h5⟩ := hI.fams g' m' hg'
      refine ⟨F2, by show (if g' = g then _ else _) = _; rw [if_neg (fun e => hgg e.symm)]; exact h1, h2, h3, h4, fun j hj1 hj2 => ?_⟩
      have h6 := h5 j hj1 hj2
      have hni := notIn _ _ _ h6 (fun e => hgg (Who.spare.inj e).symm)
      exact (who _ _ hni).trans h6
  · intro r o g' hr
    have hni : ¬ inr r o := fun h => by rw [whoI r o h] at hr; cases hr
    rw [who r o hni] at hr
    obtain ⟨h1, h2, h3⟩ := hI.spare r o g' hr
    exact ⟨h1, hw.some h2, by rw [hw.fro]; exact h3⟩
  · intro r o hr
    rw [hw.size] at hr
    have h1 := hI.fresh r o hr
    have hni : ¬ inr r o := fun h => by have := hwas r o h; rw [h1] at this; cases this
    rw [who r o hni]; exact h1
  · intro b hb; rw [List.length_set] at hb; exact hI.noLoc b hb
  · intro b hb
    rw [List.length_set] at hb
    show (if b = g then _ else _) = _
    rw [if_neg (by omega)]
    exact hI.noFam b hb
  · intro g' v hg'; exact (hI.globs g' v hg').mono (Nat.le_refl _) (he.less (Nat.zero_le _))

end Go.Proofs.YtkocimfdgdegfaaGreatDoor.E

namespace Go.Proofs.YtkocimfdgdegfaaGreatDoor.E
open Go Go.RowKit
variable {P : Program} {C : Cfg}

/-- A block is given up. -/
theorem Inv.kill {glob : Nat → Option AV} {B : Nat} {w0 : World} {hp : List Blk} {L : Lay} {w : World} (hI : Inv glob B w0 L w hp) (b : Nat) :
    Inv glob B w0 { L with loc := fun k => if k = b then none else L.loc k } w (hp.set b .dead) ∧ Ext hp.length L w { L with loc := fun k => if k = b then none else L.loc k } w ∧
      ∀ s, KeepLoc s L w { L with loc := fun k => if k = b then none else L.loc k } w := by
  have he : Ext hp.length L w { L with loc := fun k => if k = b then none else L.loc k } w := by
    refine ⟨fun r o h => ⟨h, rfl⟩, fun k p hk hp => ?_, fun g F _ hF => ⟨F, hF, .inl rfl⟩⟩
    dsimp only at hp
    split at hp
    · cases hp
    · exact ⟨hp, fun r o h => h, rfl⟩
  refine ⟨⟨hI.below, hI.size, fun k cs hk => ?_, hI.own, fun g m hg => ?_, hI.spare, hI.fresh, fun k hk => ?_, fun k hk => ?_, fun g v hg => ?_⟩, he, fun s r o t _ h => ⟨h, rfl, rfl⟩⟩
  · by_cases hkb : b = k
    · subst hkb
      by_cases hb : b < hp.length
      · rw [List.getElem?_set_self hb] at hk; cases hk
      · rw [List.getElem?_eq_none (by simp; omega)] at hk; cases hk
    · rw [List.getElem?_set_ne hkb] at hk
      obtain ⟨p, h1, h2, h3⟩ := hI.blks k cs hk
      rw [List.length_set]
      refine ⟨p, by dsimp only; rw [if_neg (fun e => hkb e.symm)]; exact h1, h2, fun j c hc => ?_⟩
      obtain ⟨h4, h5, rv, h6, h7⟩ := h3 j c hc
      exact ⟨h4, h5, rv, h6, h7.mono (Nat.le_refl _) he⟩
  · by_cases hkb : b = g
    · subst hkb
      by_cases hb : b < hp.length
      · rw [List.getElem?_set_self hb] at hg; cases hg
      · rw [List.getElem?_eq_none (by simp; omega)] at hg; cases hg
    · rw [List.getElem?_set_ne hkb] at hg
      exact hI.fams g m hg
  · rw [List.length_set] at hk
    dsimp only
    split
    · rfl
    · exact hI.noLoc k hk
  · rw [List.length_set] at hk; exact hI.noFam k hk
  · exact (hI.globs g v hg).mono (Nat.le_refl _) (he.less (Nat.zero_le _))

/-- The cells of a block that was given up are a new block's. -/
theorem Inv.reown {glob : Nat → Option AV} {B : Nat} {w0 : World} {hp : List Blk} {L : Lay} {w w' : World} (hI : Inv glob B w0 L w hp) {b rb lo m : Nat} (hloc : L.loc b = none) (hown : ∀ j, j < m → L.who rb (lo + j) = .blk b)
    {s0 : Nat} {vs : List Value} (hw : Wrote w w' rb (lo + s0) vs) (hvs : s0 + vs.length ≤ m) {cs : List AV} (hcm : cs.length ≤ m)
    (hc : ∀ (j : Nat) x, cs[j]? = some x → x.one = true ∧ ∃ v, w'.cell? ⟨rb, lo + j, none⟩ = some v ∧ VR hp.length L w x v) :
    ∃ L', L'.loc hp.length = some (rb, lo) ∧ L'.ext hp.length = cs.length ∧ (∀ j, j < m → L'.who rb (lo + j) = .blk hp.length) ∧
      Inv glob B w0 L' w' (hp ++ [.cells cs]) ∧ Ext hp.length L w L' w' ∧ ∀ s, KeepLoc s L w L' w' := by
  let inr : Nat → Nat → Prop := fun r o => r = rb ∧ lo ≤ o ∧ o < lo + m
  have hdec : ∀ r o, Decidable (inr r o) := fun r o => inferInstanceAs (Decidable (_ ∧ _ ∧ _))
  let L' : Lay := { L with who := fun r o => if inr r o then .blk hp.length else L.who r o, loc := fun k => if k = hp.length then some (rb, lo) else L.loc k, ext := fun k => if k = hp.length then cs.length else L.ext k }
  have who : ∀ r o, ¬ inr r o → L'.who r o = L.who r o := fun r o h => if_neg h
  have whoI : ∀ r o, inr r o → L'.who r o = .blk hp.length := fun r o h => if_pos h
  have hwas : ∀ r o, inr r o → L.who r o = .blk b := fun r o ⟨h1, h2, h3⟩ => by
    subst h1
    have := hown (o - lo) (by omega)
    rwa [show lo + (o - lo) = o by omega] at this
  have notIn : ∀ r o x, L.who r o = x → x ≠ .blk b → ¬ inr r o := fun r o x h1 h2 h3 => h2 (by rw [← h1]; exact hwas r o h3)
  have outs : ∀ r o, ¬ inr r o → w'.cell? ⟨r, o, none⟩ = w.cell? ⟨r, o, none⟩ := fun r o h => hw.out r o fun e => by
    rcases Nat.lt_or_ge o (lo + s0) with h1 | h1
    · exact .inl h1
    · rcases Nat.lt_or_ge o (lo + s0 + vs.length) with h2 | h2
      · exact absurd ⟨e, by omega, by omega⟩ h
      · exact .inr h2
  have he : Ext hp.length L w L' w' := by
    refine ⟨fun r o hr => ?_, fun k p hk hp' => ?_, fun g F _ hF => ⟨F, hF, .inl rfl⟩⟩
    · have := notIn r o _ hr (by simp)
      exact ⟨(who r o this).trans hr, outs r o this⟩
    · have h1 : L'.loc k = L.loc k := if_neg (by omega)
      have h2 : L'.ext k = L.ext k := if_neg (by omega)
      rw [h1] at hp'
      have hkb : k ≠ b := fun e => by rw [e, hloc] at hp'; cases hp'
      exact ⟨hp', fun r o hr => (who r o (notIn r o _ hr (fun e => hkb (Who.blk.inj e)))).trans hr, h2⟩
  have hk : ∀ s, KeepLoc s L w L' w' := fun s r o t _ hl => by
    have := notIn r o _ hl (by simp)
    exact ⟨(who r o this).trans hl, outs r o this, hw.fro _⟩
  have hlen : (hp ++ [Blk.cells cs]).length = hp.length + 1 := by simp
  refine ⟨L', if_pos rfl, if_pos rfl, fun j hj => whoI _ _ ⟨rfl, by omega, by omega⟩, ⟨?_, by rw [hw.size]; exact hI.size, ?_, ?_, ?_, ?_, ?_, ?_, ?_, ?_⟩, he, hk⟩
  · exact hw.below B w0 (fun hz => by
      have : 0 < vs.length := List.length_pos_iff.2 hz
      exact (hI.own _ _ _ (hwas rb lo ⟨rfl, Nat.le_refl _, by omega⟩)).1) hI.below
  · intro k cs2 hb
    rw [hlen]
    by_cases hbn : k = hp.length
    · subst hbn
      rw [List.getElem?_append_right (Nat.le_refl _)] at hb
      simp at hb
      subst hb
      refine ⟨(rb, lo), if_pos rfl, if_pos rfl, fun j x hx => ?_⟩
      obtain ⟨ho, v, hv, hr⟩ := hc j x hx
      have hj := (List.getElem?_eq_some_iff.1 hx).1
      exact ⟨whoI _ _ ⟨rfl, by omega, by omega⟩, ho, v, hv, hr.mono (by omega) he⟩
    · have hb' : hp[k]? = some (.cells cs2) := by
        rw [← hb, List.getElem?_append_left]
        have := (List.getElem?_eq_some_iff.1 hb).1
        rw [hlen] at this; omega
      obtain ⟨p, hp1, hql, h2⟩ := hI.blks k cs2 hb'
      have hkb : k ≠ b := fun e => by rw [e, hloc] at hp1; cases hp1
      refine ⟨p, by show (if k = hp.length then _ else _) = _; rw [if_neg hbn]; exact hp1, by show (if k = hp.length then _ else _) = _; rw [if_neg hbn]; exact hql, fun j x hx => ?_⟩
      obtain ⟨h3, ho, rv, h4, h5⟩ := h2 j x hx
      have hni := notIn _ _ _ h3 (fun e => hkb (Who.blk.inj e))
      exact ⟨(who _ _ hni).trans h3, ho, rv, (outs _ _ hni).trans h4, h5.mono (by omega) he⟩
  · intro r o k hr
    by_cases hni : inr r o
    · obtain ⟨h1, h2, h3⟩ := hI.own r o b (hwas r o hni)
      exact ⟨h1, hw.some h2, by rw [hw.fro]; exact h3⟩
    · rw [who r o hni] at hr
      obtain ⟨h1, h2, h3⟩ := hI.own r o k hr
      exact ⟨h1, hw.some h2, by rw [hw.fro]; exact h3⟩
  · intro g m' hg
    have hg' : hp[g]? = some (.fam m') := by
      have hlt := (List.getElem?_eq_some_iff.1 hg).1
      rw [hlen] at hlt
      by_cases hgn : g = hp.length
      · subst hgn; rw [List.getElem?_append_right (Nat.le_refl _)] at hg; simp at hg
      · rw [← hg, List.getElem?_append_left]; omega
    obtain ⟨F, h1, h2, h3, h4, h5⟩ := hI.fams g m' hg'
    refine ⟨F, h1, h2, h3, h4, fun j hj1 hj2 => ?_⟩
    have h6 := h5 j hj1 hj2
    exact (who _ _ (notIn _ _ _ h6 (by simp))).trans h6
  · intro r o g hr
    have hni : ¬ inr r o := fun h => by rw [whoI r o h] at hr; cases hr
    rw [who r o hni] at hr
    obtain ⟨h1, h2, h3⟩ := hI.spare r o g hr
    exact ⟨h1, hw.some h2, by rw [hw.fro]; exact h3⟩
  · intro r o hr
    rw [hw.size] at hr
    have h1 := hI.fresh r o hr
    have hni : ¬ inr r o := fun h => by have := hwas r o h; rw [h1] at this; cases this
    rw [who r o hni]; exact h1
  · intro k hk
    rw [hlen] at hk
    show (if k = hp.length then _ else _) = _
    rw [if_neg (by omega)]
    exact hI.noLoc k (by omega)
  · intro k hk; rw [hlen] at hk; exact hI.noFam k (by omega)
  · intro g v hg; exact (hI.globs g v hg).mono (Nat.le_refl _) (he.less (Nat.zero_le _))

/-- What an operation on memory comes to: the value, and the heap behind it. -/
def Comes (C : Cfg) (B : Nat) (w0 : World) (L : Lay) (w : World) (st : St) (r : Res) (w' : World) (rv : Value) : Prop :=
  ∃ L' x, r.val = .v x ∧ r.tmps = st.tmps ∧ Inv C.glob B w0 L' w' r.hp ∧ Ext st.hp.length L w L' w' ∧ (∀ s, KeepLoc s L w L' w') ∧ w.heap.size ≤ w'.heap.size ∧ st.hp.length ≤ r.hp.length ∧ VR r.hp.length L' w' x rv

theorem CR.of_acr {n : Nat} {L : Lay} {w : World} {cs : List AV} {c : Array Value} (h : ACR n L w cs c) : CR n L w cs c.toList :=
  ⟨by simp [h.len], fun i x v hx hv => by
    have := h.vr i x hx
    rw [Array.getElem?_toList] at hv
    rw [Array.getD_eq_getD_getElem?, hv] at this
    exact this⟩

theorem ACR.ones {n : Nat} {L : Lay} {w : World} {cs : List AV} {c : Array Value} (h : ACR n L w cs c) : ∀ v ∈ c.toList, v.oneCell' = true := (CR.of_acr h).allOne h.one

theorem run_storeCells_there {w : World} {rb o : Nat} {vs : List Value} (h : ∀ j, j < vs.length → (w.cell? ⟨rb, o + j, none⟩).isSome = true ∧ w.frozen? ⟨rb, o + j, none⟩ = false) (h1 : ∀ v ∈ vs, v.oneCell' = true) :
    (storeCells ⟨rb, o, none⟩ vs).run P w = .ok () (w.setCells rb o vs) := by
  have := run_storeCells_cells (P := P) rb o vs 0 w (fun j hj => (h j hj).1) (fun j hj => (h j hj).2) h1
  simpa using this

theorem slc_val {n : Nat} {L : Lay} {w : World} {s : AV} {vs : Value} {hp : List Blk} {sz : Nat} {ys : List AV} (h0 : sz ≠ 0) (hs : isSlc s = true) (hv : VR n L w s vs) (he : elems hp sz s = some ys) (hch : ∀ b off len cs, s = .arr sz b off len → blkCells hp b = some cs → chunk sz len (cs.drop off) = some ys → ys.length = len) :
    ∃ base cap, vs = .slice base ys.length cap ∧ ys.length ≤ cap ∧ (base = none → cap = 0) := by
  cases hv <;> simp only [isSlc, Bool.false_eq_true] at hs
  case nilS => simp [elems] at he; subst he; exact ⟨none, 0, rfl, Nat.le_refl _, fun _ => rfl⟩
  case lit sz' own xs rb ro cap cv hc _ _ _ _ _ =>
    unfold elems at he
    simp only at he
    cases hb : (sz' == sz) with
    | false => rw [hb] at he; cases he
    | true =>
      rw [hb, cond_true rfl] at he; cases he
      exact ⟨_, cap, rfl, hc, fun h => by cases h⟩
  case arr sz' b off len a cap hb hc ha =>
    unfold elems at he
    simp only at he
    cases hb : (sz' == sz) with
    | false => rw [hb] at he; cases he
    | true =>
      rw [hb, cond_true rfl] at he
      have : sz' = sz := by simpa using hb
      subst this
      split at he
      · rename_i cs hcs
        have := hch b off len cs rfl hcs he
        rw [this]
        exact ⟨some a, cap, rfl, hc, fun h => by cases h⟩
      · cases he

end Go.Proofs.YtkocimfdgdegfaaGreatDoor.E
