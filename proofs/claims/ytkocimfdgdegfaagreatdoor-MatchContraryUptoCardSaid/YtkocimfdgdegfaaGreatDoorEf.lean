/- A call's soundness; a claim's call; tables of a program, checked; one way through a code. -/
import Derived.Test.YtkocimfdgdegfaaGreatDoorEe
set_option linter.unusedSimpArgs false
set_option linter.unusedVariables false
namespace Go.Proofs.YtkocimfdgdegfaaGreatDoor.E
open Go Go.RowKit Go.Lib
variable {P : Program} {C : Cfg}

/-- the lay without the blocks from n on: what they held is not written any more -/
def sealL (n : Nat) (L : Lay) : Lay where
  loc b := if b < n then L.loc b else none
  ext := L.ext
  fam g := if g < n then L.fam g else none
  who r o := match L.who r o with
    | .blk b => if b < n then .blk b else .imm
    | .spare g => if g < n then .spare g else .none
    | x => x

theorem sealL_imm {n : Nat} {L : Lay} {r o : Nat} (h : L.who r o = .imm) : (sealL n L).who r o = .imm := by simp only [sealL, h]
theorem sealL_loc {n : Nat} {L : Lay} {r o t : Nat} (h : L.who r o = .loc t) : (sealL n L).who r o = .loc t := by simp only [sealL, h]
theorem sealL_blk {n : Nat} {L : Lay} {r o b : Nat} (h : L.who r o = .blk b) (hb : b < n) : (sealL n L).who r o = .blk b := by simp only [sealL, h, if_pos hb]
theorem sealL_gone {n : Nat} {L : Lay} {r o b : Nat} (h : L.who r o = .blk b) (hb : ¬ b < n) : (sealL n L).who r o = .imm := by simp only [sealL, h, if_neg hb]
theorem sealL_at {n : Nat} {L : Lay} {b : Nat} (hb : b < n) : (sealL n L).loc b = L.loc b := by simp only [sealL, if_pos hb]
theorem sealL_fam {n : Nat} {L : Lay} {b : Nat} (hb : b < n) : (sealL n L).fam b = L.fam b := by simp only [sealL, if_pos hb]

theorem sealL_ext (n : Nat) (L : Lay) (w : World) : Ext n L w (sealL n L) w :=
  ⟨fun r o h => ⟨sealL_imm h, rfl⟩, fun b p hb hp => ⟨by rw [← sealL_at hb]; exact hp, fun r o h => sealL_blk h hb, rfl⟩, fun g F hg hF => ⟨F, by rw [← sealL_fam hg]; exact hF, .inl rfl⟩⟩
theorem sealL_keep (s n : Nat) (L : Lay) (w : World) : KeepLoc s L w (sealL n L) w := fun _ _ _ _ h => ⟨sealL_loc h, rfl, rfl⟩

theorem sealL_blk' {n : Nat} {L : Lay} {r o b : Nat} (h : (sealL n L).who r o = .blk b) : L.who r o = .blk b ∧ b < n := by
  simp only [sealL] at h
  split at h
  · rename_i b' h1
    split at h
    · rename_i hb; cases h; exact ⟨h1, hb⟩
    · cases h
  · split at h <;> cases h
  · rename_i h1 _; exact absurd h (h1 b)
theorem sealL_spare' {n : Nat} {L : Lay} {r o b : Nat} (h : (sealL n L).who r o = .spare b) : L.who r o = .spare b ∧ b < n := by
  simp only [sealL] at h
  split at h
  · split at h <;> cases h
  · rename_i b' h1
    split at h
    · rename_i hb; cases h; exact ⟨h1, hb⟩
    · cases h
  · rename_i _ h1; exact absurd h (h1 b)

theorem seal_inv {glob : Nat → Option AV} {B : Nat} {w0 w : World} {L : Lay} {hpF hp : List Blk} (hI : Inv glob B w0 L w hpF) (hpre : ∀ b, b < hp.length → hpF[b]? = hp[b]?)
    (hclo : ∀ (b : Nat) cs, hp[b]? = some (.cells cs) → ∀ c ∈ cs, ∀ rv, VR hpF.length L w c rv → VR hp.length L w c rv) : Inv glob B w0 (sealL hp.length L) w hp := by
  have lt : ∀ {b : Nat} {x}, hp[b]? = some x → b < hp.length := fun h => (List.getElem?_eq_some_iff.1 h).1
  refine ⟨hI.below, hI.size, fun b cs hb => ?_, fun r o b h => ?_, fun g m hg => ?_, fun r o g h => ?_, fun r o h => ?_, fun b h => ?_, fun b h => ?_, fun g v hg => ?_⟩
  · obtain ⟨p, h1, h2, h3⟩ := hI.blks b cs ((hpre b (lt hb)).trans hb)
    refine ⟨p, by rw [sealL_at (lt hb)]; exact h1, h2, fun j c hj => ?_⟩
    obtain ⟨k1, k2, rv, k3, k4⟩ := h3 j c hj
    exact ⟨sealL_blk k1 (lt hb), k2, rv, k3, (hclo b cs hb c (List.mem_of_getElem? hj) rv k4).mono (Nat.le_refl _) (sealL_ext _ _ _)⟩
  · exact hI.own r o b (sealL_blk' h).1
  · obtain ⟨F, h1, h2, h3, h4, h5⟩ := hI.fams g m ((hpre g (lt hg)).trans hg)
    exact ⟨F, by rw [sealL_fam (lt hg)]; exact h1, h2, h3, h4, fun j h6 h7 => by simp only [sealL, h5 j h6 h7, if_pos (lt hg)]⟩
  · exact hI.spare r o g (sealL_spare' h).1
  · simp only [sealL, hI.fresh r o h]
  · simp only [sealL, if_neg (Nat.not_lt.2 h)]
  · simp only [sealL, if_neg (Nat.not_lt.2 h)]
  · exact (hI.globs g v hg).mono (Nat.le_refl _) ((sealL_ext hp.length L w).less (Nat.zero_le _))

/-! ### what outlives a call -/
theorem mapO_back {α β : Type} {f : α → Option β} {l : List α} {r : List β} (h : mapO f l = some r) (i : Nat) (y : β) (hy : r[i]? = some y) : ∃ x, l[i]? = some x ∧ f x = some y := by
  obtain ⟨hl, hi⟩ := mapO_eq f l r h
  have hlt : i < l.length := by rw [← hl]; exact (List.getElem?_eq_some_iff.1 hy).1
  obtain ⟨y', h1, h2⟩ := hi i _ (List.getElem?_eq_getElem hlt)
  rw [hy] at h2; cases h2
  exact ⟨_, List.getElem?_eq_getElem hlt, h1⟩

theorem shutV_cells {hp : List Blk} {n : Nat} {d : Nat} {x y : AV} (h : shutV hp n d x = some y) :
    y.cells.length = x.cells.length ∧ (x.one = true → y.one = true) ∧ ∀ (j : Nat) c', y.cells[j]? = some c' → ∃ c d', d' ≤ d ∧ x.cells[j]? = some c ∧ shutV hp n d' c = some c' := by
  have one : x.cells = [x] → y.cells = [y] → y.cells.length = x.cells.length ∧ ∀ (j : Nat) c', y.cells[j]? = some c' → ∃ c d', d' ≤ d ∧ x.cells[j]? = some c ∧ shutV hp n d' c = some c' := fun h1 h2 => by
    rw [h1, h2]
    refine ⟨rfl, fun j c' hj => ?_⟩
    cases j with
    | zero => simp at hj; subst hj; exact ⟨x, d, Nat.le_refl _, rfl, h⟩
    | succ j => simp at hj
  cases d with
  | zero => cases h
  | succ d =>
    have h' := h
    cases x with
    | agg cs =>
      simp only [shutV, Option.map_eq_some_iff] at h
      obtain ⟨ys, hys, rfl⟩ := h
      refine ⟨(mapO_eq _ _ _ hys).1, fun h => (by cases h), fun j c' hj => ?_⟩
      obtain ⟨c, h1, h2⟩ := mapO_back hys j c' hj
      exact ⟨c, d, by omega, h1, h2⟩
    | tup cs =>
      simp only [shutV, Option.map_eq_some_iff] at h
      obtain ⟨ys, hys, rfl⟩ := h
      obtain ⟨o1, o2⟩ := one rfl rfl
      exact ⟨o1, fun h => (by cases h), o2⟩
    | ptr b off =>
      simp only [shutV, cond_eq_ite] at h
      split at h
      · cases h; obtain ⟨o1, o2⟩ := one rfl rfl; exact ⟨o1, fun _ => rfl, o2⟩
      · cases h
    | rop v =>
      simp only [shutV, Option.map_eq_some_iff] at h
      obtain ⟨_, _, rfl⟩ := h
      obtain ⟨o1, o2⟩ := one rfl rfl; exact ⟨o1, fun _ => rfl, o2⟩
    | lit sz own xs =>
      simp only [shutV] at h
      split at h
      · cases h; obtain ⟨o1, o2⟩ := one rfl rfl; exact ⟨o1, fun _ => rfl, o2⟩
      · cases h
    | arr sz b off len =>
      simp only [shutV, cond_eq_ite] at h
      split at h
      · cases h; obtain ⟨o1, o2⟩ := one rfl rfl; exact ⟨o1, fun _ => rfl, o2⟩
      · split at h
        · simp only [Option.map_eq_some_iff] at h
          obtain ⟨_, _, rfl⟩ := h
          obtain ⟨o1, o2⟩ := one rfl rfl; exact ⟨o1, fun _ => rfl, o2⟩
        · cases h
    | fn f a b =>
      simp only [shutV] at h
      split at h
      · cases h; obtain ⟨o1, o2⟩ := one rfl rfl; exact ⟨o1, fun _ => rfl, o2⟩
      · cases h
    | iface t v =>
      simp only [shutV, Option.map_eq_some_iff] at h
      obtain ⟨_, _, rfl⟩ := h
      obtain ⟨o1, o2⟩ := one rfl rfl; exact ⟨o1, fun _ => rfl, o2⟩
    | _ =>
      simp only [shutV, Option.some.injEq] at h
      subst h
      obtain ⟨o1, o2⟩ := one rfl rfl; exact ⟨o1, fun h => h, o2⟩

theorem flat_shut {hp : List Blk} {n d : Nat} : ∀ {xs ys : List AV}, mapO (shutV hp n d) xs = some ys →
    ys.length = xs.length ∧ (∀ y ∈ ys, ∃ x ∈ xs, y.cells.length = x.cells.length) ∧ (flat ys).length = (flat xs).length ∧
    ∀ (j : Nat) c', (flat ys)[j]? = some c' → ∃ c d', d' ≤ d ∧ (flat xs)[j]? = some c ∧ shutV hp n d' c = some c'
  | [], ys, h => by
    simp only [mapO, Option.some.injEq] at h
    subst h
    exact ⟨rfl, fun _ h => (by cases h), rfl, fun j c' h => by simp [flat] at h⟩
  | x :: xs, ys, h => by
    simp only [mapO] at h
    split at h
    · rename_i y hy
      split at h
      · rename_i ys' hys
        cases h
        obtain ⟨a1, _, a2⟩ := shutV_cells hy
        obtain ⟨b1, b2, b3, b4⟩ := flat_shut hys
        refine ⟨by simp [b1], fun z hz => ?_, by simp [flat, a1, b3], fun j c' hj => ?_⟩
        · rcases List.mem_cons.1 hz with rfl | hz
          · exact ⟨x, List.mem_cons_self .., a1⟩
          · obtain ⟨u, hu, he⟩ := b2 z hz
            exact ⟨u, List.mem_cons_of_mem _ hu, he⟩
        · simp only [flat] at hj ⊢
          by_cases hlt : j < y.cells.length
          · rw [List.getElem?_append_left hlt] at hj
            rw [List.getElem?_append_left (by omega)]
            exact a2 j c' hj
          · rw [List.getElem?_append_right (by omega)] at hj
            rw [List.getElem?_append_right (by omega), ← a1]
            exact b4 _ c' hj
      · cases h
    · cases h

theorem chunk_zero : ∀ (n : Nat) (cs xs : List AV), chunk 0 n cs = some xs → xs.length = n ∧ (∀ x ∈ xs, x.cells.length = 0) ∧ flat xs = []
  | 0, cs, xs, h => by simp [chunk] at h; subst h; simp [flat]
  | n + 1, cs, xs, h => by
    simp [chunk] at h
    split at h
    · rename_i ys hys
      cases h
      obtain ⟨a, b, c⟩ := chunk_zero n _ _ hys
      exact ⟨by simp [a], fun x hx => by rcases List.mem_cons.1 hx with rfl | hx; rfl; exact b x hx, by simp [flat, c, AV.cells]⟩
    · cases h

theorem shut_ok {glob : Nat → Option AV} {B : Nat} {w0 w : World} {L : Lay} {hp : List Blk} {n : Nat} (hI : Inv glob B w0 L w hp) : ∀ (d : Nat) (x y : AV), shutV hp n d x = some y → ∀ v, VR hp.length L w x v → VR n (sealL n L) w y v := by
  intro d
  induction d using Nat.strongRecOn with
  | _ d ih =>
  intro x y h v hv
  cases d with
  | zero => cases h
  | succ d =>
  have ih' : ∀ d', d' ≤ d → ∀ (x y : AV), shutV hp n d' x = some y → ∀ v, VR hp.length L w x v → VR n (sealL n L) w y v := fun d' hd => ih d' (by omega)
  cases hv with
  | bool b => simp only [shutV, Option.some.injEq] at h; subst h; exact .bool b
  | int k i => simp only [shutV, Option.some.injEq] at h; subst h; exact .int k i
  | str l s hs => simp only [shutV, Option.some.injEq] at h; subst h; exact .str l s hs
  | nilP => simp only [shutV, Option.some.injEq] at h; subst h; exact .nilP
  | nilS => simp only [shutV, Option.some.injEq] at h; subst h; exact .nilS
  | nilF => simp only [shutV, Option.some.injEq] at h; subst h; exact .nilF
  | nilI => simp only [shutV, Option.some.injEq] at h; subst h; exact .nilI
  | nilM => simp only [shutV, Option.some.injEq] at h; subst h; exact .nilM
  | ptr b off a hb ha =>
    simp only [shutV, cond_eq_ite] at h
    split at h
    · rename_i hbn
      cases h
      have hbn : b < n := by simpa using hbn
      exact .ptr b off a hbn fun p hp => ha p (by rw [← sealL_at hbn]; exact hp)
    · cases h
  | rop x rb ro cv h1 h2 h3 =>
    simp only [shutV, Option.map_eq_some_iff] at h
    obtain ⟨z, hz, rfl⟩ := h
    obtain ⟨a1, _, a2⟩ := shutV_cells hz
    refine .rop z rb ro cv (fun j hj => ?_) (fun j c' hj => ?_) (fun j c' hj => ?_)
    · obtain ⟨k1, k2⟩ := h1 j (by omega)
      exact ⟨k1, sealL_imm k2⟩
    · obtain ⟨c, d', hd, hc, hs⟩ := a2 j c' hj
      exact (shutV_cells hs).2.1 (h2 j c hc)
    · obtain ⟨c, d', hd, hc, hs⟩ := a2 j c' hj
      exact ih' d' hd c c' hs _ (h3 j c hc)
  | lit sz own xs rb ro cap cv hc hsz h1 h2 h3 ho =>
    simp only [shutV] at h
    split at h
    · rename_i ys hys
      cases h
      obtain ⟨a1, a2, a3, a4⟩ := flat_shut hys
      rw [← a1]
      refine .lit sz _ ys rb ro cap cv (by omega) (fun y hy => ?_) (fun j hj => ?_) (fun j c' hj => ?_) (fun j c' hj => ?_) ?_
      · obtain ⟨x, hx, he⟩ := a2 y hy
        rw [he]; exact hsz x hx
      · obtain ⟨k1, k2⟩ := h1 j (by rw [← a1]; exact hj)
        exact ⟨k1, sealL_imm k2⟩
      · obtain ⟨c, d', hd, hcc, hs⟩ := a4 j c' hj
        exact (shutV_cells hs).2.1 (h2 j c hcc)
      · obtain ⟨c, d', hd, hcc, hs⟩ := a4 j c' hj
        exact ih' d' hd c c' hs _ (h3 j c hcc)
      · rw [a1]
        cases own with
        | sealed => trivial
        | exact => exact ho
        | fam g s =>
          simp only [cond_eq_ite]
          by_cases hg : g < n
          · simp only [hg, decide_true, if_true]
            exact ⟨hg, fun F hF => ho.2 F (by rw [← sealL_fam hg]; exact hF)⟩
          · simp only [hg, decide_false, Bool.false_eq_true, if_false]
            trivial
    · cases h
  | arr sz b off len a cap hb hc ha =>
    simp only [shutV, cond_eq_ite] at h
    split at h
    · rename_i hbn
      cases h
      have hbn : b < n := by simpa using hbn
      refine .arr sz b off len a cap hbn hc fun p hp => ?_
      obtain ⟨k1, k2, k3⟩ := ha p (by rw [← sealL_at hbn]; exact hp)
      exact ⟨k1, fun j hj => sealL_blk (k2 j hj) hbn, k3⟩
    · rename_i hbn
      have hbn : ¬ b < n := by simpa using hbn
      split at h
      · rename_i xs hxs
        simp only [Option.map_eq_some_iff] at h
        obtain ⟨ys, hys, rfl⟩ := h
        simp only [elems, beq_self_eq_true, cond_true] at hxs
        split at hxs
        · rename_i cs hcs
          obtain ⟨p, h1, h2, h3⟩ := hI.blks b cs (blkCells_eq hcs)
          obtain ⟨rfl, k2, k3⟩ := ha p h1
          obtain ⟨a1, a2, a3, a4⟩ := flat_shut hys
          have facts : xs.length = len ∧ (∀ x ∈ xs, x.cells.length = sz) ∧ (∀ (j : Nat) c, (flat xs)[j]? = some c → cs[off + j]? = some c) ∧ ∀ j, j < len * sz → off + j < cs.length := by
            by_cases h0 : sz = 0
            · subst h0
              obtain ⟨b1, b2, b3⟩ := chunk_zero _ _ _ hxs
              exact ⟨b1, b2, fun j c hj => by rw [b3] at hj; simp at hj, fun j hj => by simp at hj⟩
            · obtain ⟨b1, b2, b3, b4⟩ := chunk_ok h0 len (cs.drop off) xs (fun j c hj => by rw [List.getElem?_drop] at hj; exact (h3 _ c hj).2.1) hxs
              refine ⟨b1, b2, fun j c hj => ?_, fun j hj => ?_⟩
              · rw [b3, List.getElem?_take] at hj
                split at hj
                · rw [List.getElem?_drop] at hj; exact hj
                · cases hj
              · simp only [List.length_drop] at b4; omega
          obtain ⟨b1, b2, b3, b4⟩ := facts
          rw [show len = ys.length by omega]
          refine .lit sz .sealed ys p.1 (p.2 + off) cap (fun j => (w.cell? ⟨p.1, p.2 + off + j, none⟩).getD default) (by omega) (fun y hy => ?_) (fun j hj => ?_) (fun j c' hj => ?_) (fun j c' hj => ?_) trivial
          · obtain ⟨x, hx, he⟩ := a2 y hy
            rw [he]; exact b2 x hx
          · have hlt := b4 j (by rw [← b1, ← a1]; exact hj)
            obtain ⟨k1, _, rv, k4, _⟩ := h3 (off + j) _ (List.getElem?_eq_getElem hlt)
            rw [← Nat.add_assoc] at k1 k4
            exact ⟨by rw [k4]; rfl, sealL_gone k1 hbn⟩
          · obtain ⟨c, d', hd, hcc, hs⟩ := a4 j c' hj
            exact (shutV_cells hs).2.1 (h3 _ c (b3 j c hcc)).2.1
          · obtain ⟨c, d', hd, hcc, hs⟩ := a4 j c' hj
            obtain ⟨_, _, rv, k4, k5⟩ := h3 (off + j) c (b3 j c hcc)
            rw [← Nat.add_assoc] at k4
            rw [k4]
            exact ih' d' hd c c' hs _ k5
        · cases hxs
      · cases h
  | fn f xs ys rx ry h1 h2 h3 h4 =>
    simp only [shutV] at h
    split at h
    · rename_i a b ha hb
      cases h
      refine .fn f a b rx ry (by rw [h1, (mapO_eq _ _ _ ha).1]) (by rw [h2, (mapO_eq _ _ _ hb).1]) (fun i x hx => ?_) (fun i x hx => ?_)
      · obtain ⟨z, k1, k2⟩ := mapO_back ha i x hx
        exact ih' d (Nat.le_refl _) z x k2 _ (h3 i z k1)
      · obtain ⟨z, k1, k2⟩ := mapO_back hb i x hx
        exact ih' d (Nat.le_refl _) z x k2 _ (h4 i z k1)
    · cases h
  | iface t x v hx =>
    simp only [shutV, Option.map_eq_some_iff] at h
    obtain ⟨z, hz, rfl⟩ := h
    exact .iface t z v (ih' d (Nat.le_refl _) x z hz v hx)
  | agg cs rc h1 h2 h3 =>
    simp only [shutV, Option.map_eq_some_iff] at h
    obtain ⟨ys, hys, rfl⟩ := h
    refine .agg ys rc (by rw [h1, (mapO_eq _ _ _ hys).1]) (fun i x hx => ?_) (fun i x hx => ?_)
    · obtain ⟨z, k1, k2⟩ := mapO_back hys i x hx
      exact (shutV_cells k2).2.1 (h2 i z k1)
    · obtain ⟨z, k1, k2⟩ := mapO_back hys i x hx
      exact ih' d (Nat.le_refl _) z x k2 _ (h3 i z k1)
  | tup cs rc h1 h3 =>
    simp only [shutV, Option.map_eq_some_iff] at h
    obtain ⟨ys, hys, rfl⟩ := h
    refine .tup ys rc (by rw [h1, (mapO_eq _ _ _ hys).1]) (fun i x hx => ?_)
    obtain ⟨z, k1, k2⟩ := mapO_back hys i x hx
    exact ih' d (Nat.le_refl _) z x k2 _ (h3 i z k1)

theorem all_get {α : Type} {p : α → Bool} {l : List α} (h : l.all p = true) (i : Nat) (x : α) (hx : l[i]? = some x) : p x = true := List.all_eq_true.1 h x (List.mem_of_getElem? hx)

theorem clo_cells {n d : Nat} {x : AV} (h : clo n d x = true) : ∀ (j : Nat) c, x.cells[j]? = some c → ∃ d', d' ≤ d ∧ clo n d' c = true := fun j c hj => by
  cases d with
  | zero => cases h
  | succ d =>
    cases x with
    | agg cs => exact ⟨d, by omega, all_get h j c hj⟩
    | _ =>
      simp only [AV.cells] at hj
      cases j with
      | zero => simp at hj; subst hj; exact ⟨d + 1, Nat.le_refl _, h⟩
      | succ j => simp at hj

theorem flat_clo {n d : Nat} : ∀ {xs : List AV}, xs.all (clo n d) = true → ∀ (j : Nat) c, (flat xs)[j]? = some c → ∃ d', d' ≤ d ∧ clo n d' c = true
  | [], _, j, c, h => by simp [flat] at h
  | x :: xs, h, j, c, hj => by
    simp only [List.all_cons, Bool.and_eq_true] at h
    simp only [flat] at hj
    by_cases hlt : j < x.cells.length
    · rw [List.getElem?_append_left hlt] at hj
      exact clo_cells h.1 j c hj
    · rw [List.getElem?_append_right (by omega)] at hj
      exact flat_clo h.2 _ c hj

theorem clo_ok {w : World} {L : Lay} {N n : Nat} : ∀ (d : Nat) (x : AV), clo n d x = true → ∀ v, VR N L w x v → VR n L w x v := by
  intro d
  induction d using Nat.strongRecOn with
  | _ d ih =>
  intro x h v hv
  cases d with
  | zero => cases h
  | succ d =>
  have ih' : ∀ d', d' ≤ d → ∀ (x : AV), clo n d' x = true → ∀ v, VR N L w x v → VR n L w x v := fun d' hd => ih d' (by omega)
  cases hv with
  | bool b => exact .bool b
  | int k i => exact .int k i
  | str l s hs => exact .str l s hs
  | nilP => exact .nilP
  | nilS => exact .nilS
  | nilF => exact .nilF
  | nilI => exact .nilI
  | nilM => exact .nilM
  | ptr b off a hb ha => exact .ptr b off a (by simpa [clo] using h) ha
  | rop x rb ro cv h1 h2 h3 =>
    refine .rop x rb ro cv h1 h2 fun j c hj => ?_
    obtain ⟨d', hd, hc⟩ := clo_cells (show clo n d x = true from h) j c hj
    exact ih' d' hd c hc _ (h3 j c hj)
  | lit sz own xs rb ro cap cv hc hsz h1 h2 h3 ho =>
    simp only [clo, Bool.and_eq_true] at h
    refine .lit sz own xs rb ro cap cv hc hsz h1 h2 (fun j c hj => ?_) ?_
    · obtain ⟨d', hd, hcc⟩ := flat_clo h.2 j c hj
      exact ih' d' hd c hcc _ (h3 j c hj)
    · cases own with
      | sealed => trivial
      | exact => exact ho
      | fam g s => exact ⟨by simpa using h.1, ho.2⟩
  | arr sz b off len a cap hb hc ha => exact .arr sz b off len a cap (by simpa [clo] using h) hc ha
  | fn f xs ys rx ry h1 h2 h3 h4 =>
    simp only [clo, Bool.and_eq_true] at h
    exact .fn f xs ys rx ry h1 h2 (fun i x hx => ih' d (Nat.le_refl _) x (all_get h.1 i x hx) _ (h3 i x hx)) (fun i x hx => ih' d (Nat.le_refl _) x (all_get h.2 i x hx) _ (h4 i x hx))
  | iface t x v hx => exact .iface t x v (ih' d (Nat.le_refl _) x h v hx)
  | agg cs rc h1 h2 h3 => exact .agg cs rc h1 h2 fun i x hx => ih' d (Nat.le_refl _) x (all_get h i x hx) _ (h3 i x hx)
  | tup cs rc h1 h3 => exact .tup cs rc h1 fun i x hx => ih' d (Nat.le_refl _) x (all_get h i x hx) _ (h3 i x hx)
end Go.Proofs.YtkocimfdgdegfaaGreatDoor.E

namespace Go.Proofs.YtkocimfdgdegfaaGreatDoor.E
open Go Go.RowKit Go.Lib
variable {P : Program} {C : Cfg}

theorem results_list {B base : Nat} {w0 w : World} {L : Lay} {st : St} {rt : Array Value} (hT : TysOK P C) (hI : Inv C.glob B w0 L w st.hp) (hF : FR st.hp.length L w base st.tmps rt) :
    ∀ (rv : List ResultVar) (rs : List AV), resultsE C st rv = some rs → ∃ vs : List Value, (List.mapM (fun x : ResultVar => match x with
      | .tmp t => (pure (rt.getD t undef) : Sem Value)
      | .cell a t => do loadVar t (← asAddr (rt.getD a undef))) rv).run P w = .ok vs w ∧ CR st.hp.length L w rs vs
  | [], rs, h => by
    simp only [resultsE, Option.some.injEq] at h
    subst h
    exact ⟨[], by simp, rfl, fun i x v hx => by simp at hx⟩
  | .tmp t :: rv, rs, h => by
    simp only [resultsE, getAt_eq] at h
    split at h
    · rename_i x hx
      split at h
      · rename_i xs hxs
        cases h
        obtain ⟨vs, h1, h2, h3⟩ := results_list hT hI hF rv xs hxs
        refine ⟨rt.getD t undef :: vs, by simp only [List.mapM_cons, Sem.run_bind, Sem.run_pure, Result.andThen_ok, h1], by simp [h2], fun i y v hy hv => ?_⟩
        cases i with
        | zero => simp only [List.getElem?_cons_zero, Option.some.injEq] at hy hv; subst hy; subst hv; exact hF.slot t _ hx
        | succ i => simp only [List.getElem?_cons_succ] at hy hv; exact h3 i y v hy hv
      · cases h
    · cases h
  | .cell a t :: rv, rs, h => by
    simp only [resultsE] at h
    split at h
    · rename_i tv htv
      split at h
      · rename_i x t' hp' fp' hl
        split at h
        · rename_i xs hxs
          cases h
          obtain ⟨vs, h1, h2, h3⟩ := results_list hT hI hF rv xs hxs
          obtain ⟨_, _, y, u, k1, k2, k3⟩ := loadAt_ok hT hI hF hl (opnd_ok (ds := []) hI hF htv)
          cases k1
          have hrun : (do loadVar t (← asAddr (rt.getD a undef)) : Sem Value).run P w = .ok u w := by
            have k2 : (do loadVar t (← Instr.sureAddr (rt.getD a undef)) : Sem Value).run P w = .ok u w := k2
            generalize rt.getD a undef = va at k2
            cases va with
            | pointer p =>
              cases p with
              | some p => exact k2
              | none => cases k2
            | _ => cases k2
          refine ⟨u :: vs, by rw [List.mapM_cons, Sem.run_bind]; dsimp only; rw [hrun]; simp only [Result.andThen_ok, Sem.run_bind, h1, Sem.run_pure], by simp [h2], fun i y v hy hv => ?_⟩
          cases i with
          | zero => simp only [List.getElem?_cons_zero, Option.some.injEq] at hy hv; subst hy; subst hv; exact k3
          | succ i => simp only [List.getElem?_cons_succ] at hy hv; exact h3 i y v hy hv
        · cases h
      · cases h
    · cases h

theorem results_ok {B base : Nat} {w0 w : World} {L : Lay} {st : St} {rt : Array Value} (hT : TysOK P C) (hI : Inv C.glob B w0 L w st.hp) (hF : FR st.hp.length L w base st.tmps rt) {fn : Func} {rs : List AV}
    (h : resultsE C st fn.results.toList = some rs) : ∃ rv, (results fn rt).run P w = .ok rv w ∧ VR st.hp.length L w (one rs) rv := by
  obtain ⟨vs, h1, h2, h3⟩ := results_list hT hI hF _ rs h
  refine ⟨if h : vs.toArray.size = 1 then vs.toArray[0] else .tuple vs.toArray, ?_, ?_⟩
  · unfold results
    rw [Array.mapM_eq_mapM_toList, Sem.run_bind, Sem.run_map]
    exact (congrArg (fun z : Result (List Value) => (z.andThen fun a w' => Result.ok a.toArray w').andThen fun a w' => Sem.run P (pure (if h : a.size = 1 then a[0] else Value.tuple a)) w') h1).trans (by rw [Result.andThen_ok, Result.andThen_ok, Sem.run_pure])
  · cases rs with
    | nil =>
      have : vs = [] := List.eq_nil_of_length_eq_zero h2
      subst this
      exact .tup [] #[] rfl fun i x hx => by simp at hx
    | cons x xs =>
      cases xs with
      | nil =>
        match vs, h2, h3 with
        | [v], _, h3 => exact h3 0 x v rfl rfl
      | cons y ys =>
        match vs, h2, h3 with
        | v :: u :: vs, h2, h3 =>
          refine .tup _ _ (by simpa using h2) fun i z hz => ?_
          have hlt : i < (v :: u :: vs).length := by rw [h2]; exact (List.getElem?_eq_some_iff.1 hz).1
          refine h3 i z _ hz ?_
          rw [List.getElem?_eq_getElem hlt]
          simp at hlt
          simp [Array.getD, hlt]

structure TabOK (P : Program) (C : Cfg) : Prop where
  ty : TysOK P C
  ord : P.follows .mixedOrders = true
  code : ∀ f fi, C.code f = some fi → ∃ fn, P.funcs[f]? = some fn ∧ fn.body = some fi.body ∧ fn.ntmps = fi.ntmps ∧ fn.results.toList = fi.results ∧ (fn.name == "runtime.NumGoroutine") = false ∧ codeOK C f fi.body = true
  ext : ∀ f e, C.ext f = some e → ∀ args v hp, e args = some v → ∀ B w0 L w (rargs : List Value), Inv C.glob B w0 L w hp → CR hp.length L w args rargs → FCalls P f rargs.toArray w (CallPost C B w0 L w hp.length v hp)

theorem fcalls_of {f : FuncId} {fn : Func} {c : Code} {args : Array Value} {w : World} {R : Ending → World → Prop} (hf : P.funcs[f]? = some fn) (hb : fn.body = some c) (hn : (fn.name == "runtime.NumGoroutine") = false)
    (h : c.wp P (bodyPost P fn R) { tmps := args ++ Array.replicate (fn.ntmps - args.size) undef, defers := [] } w) : FCalls P f args w R := by
  unfold FCalls
  have : (callFunc f args).run P w = .ok (.enter f args) w := by
    have hn' : ¬ fn.name = "runtime.NumGoroutine" := by simpa using hn
    unfold callFunc
    simp [hf, hb, hn']
  rw [this]
  exact calls_of_wp hf hb h

theorem frame_ok {n : Nat} {L : Lay} {w : World} {base : Nat} {args : List AV} {rargs : List Value} (h : CR n L w args rargs) (m : Nat) :
    FR n L w base (args.map .v ++ List.replicate (m - args.length) .sk) (rargs.toArray ++ Array.replicate (m - rargs.toArray.size) undef) := by
  obtain ⟨h1, h2⟩ := h
  have hsz : rargs.toArray.size = args.length := by simpa using h1
  refine ⟨by simp [h1], fun i x hx => ?_, fun i t off hi => ?_⟩
  · by_cases hlt : i < args.length
    · rw [List.getElem?_append_left (by simpa using hlt)] at hx
      simp only [List.getElem?_map, List.getElem?_eq_getElem hlt, Option.map_some, Option.some.injEq] at hx
      subst hx
      have hlr : i < rargs.length := by omega
      have : (rargs.toArray ++ Array.replicate (m - rargs.toArray.size) undef).getD i undef = rargs[i] := by
        rw [Array.getD_eq_getD_getElem?, Array.getElem?_append_left (by simpa using hlr)]
        simp [hlr]
      show VR _ _ _ _ _
      rw [this]
      exact h2 i _ _ (List.getElem?_eq_getElem hlt) (List.getElem?_eq_getElem hlr)
    · rw [List.getElem?_append_right (by simpa using hlt)] at hx
      have := List.eq_of_mem_replicate (List.mem_of_getElem? hx)
      subst this
      show _ = undef
      rw [Array.getD_eq_getD_getElem?, Array.getElem?_append_right (by omega), Array.getElem?_replicate]
      split <;> rfl
  · by_cases hlt : i < args.length
    · rw [List.getElem?_append_left (by simpa using hlt)] at hi
      simp only [List.getElem?_map, List.getElem?_eq_getElem hlt, Option.map_some, Option.some.injEq] at hi
      cases hi
    · rw [List.getElem?_append_right (by simpa using hlt)] at hi
      have := List.eq_of_mem_replicate (List.mem_of_getElem? hi)
      cases this

theorem evCall_ok (hT : TabOK P C) : ∀ (k fl : Nat), CallOK P C (evCall C k fl)
  | 0, fl => fun f args hp v hp' h => by cases h
  | k + 1, fl => fun f args hp v hp' h B w0 L w rargs hI hA => by
    unfold evCall at h
    split at h
    · rename_i e he
      simp only [Option.map_eq_some_iff] at h
      obtain ⟨v', hv, h⟩ := h
      cases h
      exact hT.ext f e he args v hp hv B w0 L w rargs hI hA
    · split at h
      · cases h
      · rename_i fi hfi
        obtain ⟨fn, hf, hb, hn, hr, hname, hc⟩ := hT.code f fi hfi
        dsimp only at h
        split at h
        · cases h
        · rename_i e st' hne hrun
          split at h
          · cases h
          · rename_i rs hrs
            refine fcalls_of hf hb hname ?_
            rw [hn]
            refine run_ok (B := B) (base := w.heap.size) (w0 := w0) (ds := []) hT.ty (evCall_ok hT k _) (evCall_keeps k _) hT.ord hI.size k fi.body hc _ st' e _ w L _ hI (frame_ok hA fi.ntmps) rfl (Nat.le_refl _) hrun fun a' w' hp => ?_
            obtain ⟨L', p1, p2, p3, p4, p5, p6, p7⟩ := hp
            rw [← hr] at hrs
            obtain ⟨rv, q1, q2⟩ := results_ok hT.ty p1 p6 hrs
            have fin : ∀ L'' (v : AV) (hp' : List Blk), Inv C.glob B w0 L'' w' hp' → Ext hp.length L w L'' w' → KeepLoc w.heap.size L w L'' w' → hp.length ≤ hp'.length → VR hp'.length L'' w' v rv → bodyPost P fn (CallPost C B w0 L w hp.length v hp') e.to a' w' := fun L'' v hp' k1 k2 k3 k4 k5 => by
              have : bodyPost P fn (CallPost C B w0 L w hp.length v hp') .normal a' w' := ⟨p7, rv, q1, rv, L'', rfl, k1, k2, k3, p4, k4, k5⟩
              cases e with
              | normal => exact this
              | ret => exact this
              | exit id => exact absurd rfl (hne id)
            split at h
            · rename_i hk
              rw [hk] at hrun
              have hfl := run_floor (evCall_floor k hp.length) (evCall_keeps k hp.length) k fi.body _ _ _ hrun (Nat.le_refl _)
              split at h
              · rename_i v' hv
                cases h
                refine fin (sealL hp.length L') _ hp (seal_inv p1 hfl.2 fun b cs hb' c hcm rv' hv' => ?_) (p2.trans (Nat.le_refl _) (sealL_ext _ _ _)) (p3.trans (Nat.le_refl _) (sealL_keep _ _ _ _)) (Nat.le_refl _) (shut_ok p1 _ _ _ hv _ q2)
                obtain ⟨i, hi⟩ := List.getElem?_of_mem hcm
                obtain ⟨_, _, _, hl⟩ := hI.blks b cs hb'
                obtain ⟨_, _, rv0, _, hv0⟩ := hl i c hi
                exact (hv'.restrict hv0)
              · cases h
            · simp only [cond_eq_ite] at h
              split at h
              · cases h
              · rename_i hcl
                split at h
                · rename_i v' hv
                  cases h
                  have hlen : (st'.hp.take hp.length).length = hp.length := by
                    have : hp.length ≤ st'.hp.length := p5
                    simp; omega
                  have := seal_inv (hp := st'.hp.take hp.length) p1 (fun b hb' => by rw [List.getElem?_take_of_lt (by omega)]) fun b cs hb' c hcm rv' hv' => by
                    rw [hlen]
                    have hall : cloH hp.length (st'.hp.take hp.length) = true := by simpa using hcl
                    unfold cloH at hall
                    have := all_get hall b _ hb'
                    exact clo_ok _ c (List.all_eq_true.1 this c hcm) _ hv'
                  rw [hlen] at this
                  exact fin (sealL hp.length L') _ _ this (p2.trans (Nat.le_refl _) (sealL_ext _ _ _)) (p3.trans (Nat.le_refl _) (sealL_keep _ _ _ _)) (by omega) (by rw [hlen]; exact shut_ok p1 _ _ _ hv _ q2)
                · cases h
            · cases h
              exact fin L' _ _ p1 p2 p3 p5 q2
            · cases h
              exact fin L' _ _ p1 p2 p3 p5 q2
        · cases h
end Go.Proofs.YtkocimfdgdegfaaGreatDoor.E

namespace Go.Proofs.YtkocimfdgdegfaaGreatDoor.E
open Go Go.RowKit Go.Lib
variable {P : Program} {C : Cfg}

/-- the lay at a claim's start: what is there is not written -/
def lay0 (w : World) : Lay where
  loc _ := none
  ext _ := 0
  fam _ := none
  who r _ := if r < w.heap.size then .imm else .none

theorem inv0 {w : World} {glob : Nat → Option AV} (hg : ∀ g v, glob g = some v → VR 0 (lay0 w) w (.rop v) (.pointer (some ⟨g, 0, none⟩))) : Inv glob w.heap.size w (lay0 w) w [] := by
  refine ⟨Below.refl _ _, Nat.le_refl _, fun b cs h => by simp at h, fun r o b h => ?_, fun g m h => by simp at h, fun r o g h => ?_, fun r o h => ?_, fun _ _ => rfl, fun _ _ => rfl, hg⟩
  · simp only [lay0] at h; split at h <;> cases h
  · simp only [lay0] at h; split at h <;> cases h
  · simp only [lay0, if_neg (Nat.not_lt.2 h)]

theorem imm0 {w : World} {r o : Nat} {v : Value} (h : w.cell? ⟨r, o, none⟩ = some v) : (lay0 w).who r o = .imm := by
  have : r < w.heap.size := by
    rcases Nat.lt_or_ge r w.heap.size with h' | h'
    · exact h'
    · exfalso
      simp [World.cell?, Array.getElem?_eq_none h'] at h
  simp only [lay0, if_pos this]

/-- A claim's call. -/
theorem entry (hT : TabOK P C) {f : FuncId} {args : List AV} {k fl : Nat} {v : AV} {hp' : List Blk} {w : World} {rargs : List Value} (hf : (C.code f).isSome = true) (hg : ∀ g v, C.glob g = some v → VR 0 (lay0 w) w (.rop v) (.pointer (some ⟨g, 0, none⟩)))
    (h : evCall C k fl f args [] = some (v, hp')) (hA : CR 0 (lay0 w) w args rargs) : Calls P f rargs.toArray w fun e w' => ∃ rv L', e = .returned rv ∧ VR hp'.length L' w' v rv ∧ Below w.heap.size w w' := by
  have := evCall_ok hT k fl f args [] v hp' h w.heap.size w (lay0 w) w rargs (inv0 hg) hA
  obtain ⟨fi, hf⟩ := Option.isSome_iff_exists.1 hf
  obtain ⟨fn, hfn, hb, _, _, hn, _⟩ := hT.code f fi hf
  unfold FCalls at this
  have he : (callFunc f rargs.toArray).run P w = .ok (.enter f rargs.toArray) w := by
    have hn' : ¬ fn.name = "runtime.NumGoroutine" := by simpa using hn
    unfold callFunc
    simp [hfn, hb, hn']
  rw [he] at this
  refine Calls.mono this fun e w' hp => ?_
  obtain ⟨rv, L', h1, h2, _, _, _, _, h3⟩ := hp
  exact ⟨rv, L', h1, h3, h2.below⟩

theorem entry_true (hT : TabOK P C) {f : FuncId} {args : List AV} {k fl : Nat} {hp' : List Blk} {w : World} {rargs : List Value} (hf : (C.code f).isSome = true) (hg : ∀ g v, C.glob g = some v → VR 0 (lay0 w) w (.rop v) (.pointer (some ⟨g, 0, none⟩)))
    (h : evCall C k fl f args [] = some (.bool true, hp')) (hA : CR 0 (lay0 w) w args rargs) : Calls P f rargs.toArray w fun e w' => e = .returned (.bool true) ∧ Below w.heap.size w w' := by
  refine Calls.mono (entry hT hf hg h hA) fun e w' hp => ?_
  obtain ⟨rv, L', h1, h2, h3⟩ := hp
  cases h2
  exact ⟨h1, h3⟩

theorem CR.nil {n : Nat} {L : Lay} {w : World} : CR n L w [] [] := ⟨rfl, fun i x v h => by simp at h⟩
theorem CR.cons {n : Nat} {L : Lay} {w : World} {x : AV} {v : Value} {xs : List AV} {vs : List Value} (h : VR n L w x v) (k : CR n L w xs vs) : CR n L w (x :: xs) (v :: vs) :=
  ⟨by simp [k.1], fun i y u hy hu => by
    cases i with
    | zero => simp at hy hu; subst hy; subst hu; exact h
    | succ i => simp at hy hu; exact k.2 i y u hy hu⟩
end Go.Proofs.YtkocimfdgdegfaaGreatDoor.E

namespace Go.Proofs.YtkocimfdgdegfaaGreatDoor.E
open Go Go.RowKit Go.Lib
variable {P : Program}

def at2 {α : Type} (t : List (List α)) (i : Nat) : Option α :=
  match getAt t (i / 16) with
  | some r => getAt r (i % 16)
  | none => none

def FI.of (f : Func) : Option FI :=
  match f.body with
  | some b => some ⟨f.ntmps, f.results.toList, b⟩
  | none => none

def tyAt (tys : List (List (Option TI))) (t : Nat) : Option TI :=
  match at2 tys t with
  | some x => x
  | none => none
def fnAt (fns : List (List (Option FI))) (f : Nat) : Option FI :=
  match at2 fns f with
  | some x => x
  | none => none
def lookN {α : Type} (r : Nat) : List (Nat × α) → Option α
  | [] => none
  | (k, a) :: l => bif Nat.beq k r then some a else lookN r l

def mkCfg (n m : Nat) (tys : List (List (Option TI))) (fns : List (List (Option FI))) (locs : List (List Nat)) (loops afters : List (List (List (Nat × Nat)))) (prs : List (List (List (Nat × List (Nat × Nat)))))
    (kinds : List (List Kind)) (arrs : List (List Bool)) (glob : Nat → Option AV) (ext : FuncId → Option (List AV → Option AV)) (arrb : FuncId → Bool := fun _ => false) : Cfg where
  arrB := arrb
  ty t := bif Nat.blt t n then tyAt tys t else none
  code f := bif Nat.blt f m then fnAt fns f else none
  glob := glob
  ext := ext
  isLoc f := match at2 locs f with | some x => x | none => 0
  loop f r := match at2 loops f with | some l => lookN r l | none => none
  after f r := match at2 afters f with | some l => lookN r l | none => none
  pairs f r := match at2 prs f with | some l => (match lookN r l with | some x => x | none => []) | none => []
  kind f := match at2 kinds f with | some x => x | none => .pure
  arrF f := match at2 arrs f with | some x => x | none => false

theorem range_map {α : Type} {f g : Nat → α} {n : Nat} (h : (List.range n).map f = (List.range n).map g) (i : Nat) (hi : i < n) : f i = g i := by
  have := congrArg (fun l => l[i]?) h
  simpa [hi] using this

theorem blt_lt {a b : Nat} (h : Nat.blt a b = true) : a < b := Nat.le_of_ble_eq_true h

theorem mkTab {n m : Nat} {tys : List (List (Option TI))} {fns : List (List (Option FI))} {locs : List (List Nat)} {loops afters : List (List (List (Nat × Nat)))} {prs : List (List (List (Nat × List (Nat × Nat))))} {kinds : List (List Kind)} {arrs : List (List Bool)} {glob : Nat → Option AV} {ext : FuncId → Option (List AV → Option AV)} {arrb : FuncId → Bool}
    (hty : (List.range n).map (tyAt tys) = (List.range n).map (tiOf P))
    (hfn : (List.range m).map (fnAt fns) = (List.range m).map fun f => match P.funcs[f]? with | some fn => FI.of fn | none => none)
    (hok : (List.range m).all (fun f => match P.funcs[f]? with
      | some fn => !(fn.name == "runtime.NumGoroutine") && (match FI.of fn with | some fi => codeOK (mkCfg n m tys fns locs loops afters prs kinds arrs glob ext arrb) f fi.body | none => true)
      | none => true) = true)
    (hord : P.follows .mixedOrders = true)
    (hext : ∀ f e, ext f = some e → ∀ args v hp, e args = some v → ∀ B w0 L w (rargs : List Value), Inv glob B w0 L w hp → CR hp.length L w args rargs → FCalls P f rargs.toArray w (CallPost (mkCfg n m tys fns locs loops afters prs kinds arrs glob ext arrb) B w0 L w hp.length v hp)) :
    TabOK P (mkCfg n m tys fns locs loops afters prs kinds arrs glob ext arrb) := by
  refine ⟨fun t ti h => ?_, hord, fun f fi h => ?_, hext⟩
  · simp only [mkCfg, cond_eq_ite] at h
    split at h
    · rename_i hlt
      rw [range_map hty t (blt_lt hlt)] at h
      exact tiOf_ok h
    · cases h
  · have hc := h
    simp only [mkCfg, cond_eq_ite] at h
    split at h
    · rename_i hlt
      rw [range_map hfn f (blt_lt hlt)] at h
      have := List.all_eq_true.1 hok f (List.mem_range.2 (blt_lt hlt))
      cases hf : P.funcs[f]? with
      | none => rw [hf] at h; cases h
      | some fn =>
        rw [hf] at h this
        dsimp only at h this
        rw [h] at this
        simp only [Bool.and_eq_true, Bool.not_eq_true'] at this
        unfold FI.of at h
        split at h
        · rename_i b hb
          cases h
          exact ⟨fn, rfl, hb, rfl, rfl, this.1, this.2⟩
        · cases h
    · cases h
end Go.Proofs.YtkocimfdgdegfaaGreatDoor.E

namespace Go.Proofs.YtkocimfdgdegfaaGreatDoor.E
open Go Go.RowKit Go.Lib
variable {P : Program} {C : Cfg} {call : CallF} {fl : Nat} {me : FuncId}

/-! ### one way through a code: where a step hangs on what is not known, what it comes to is told, and asked -/
inductive Ora where
  /-- an operation's value -/
  | val (v : AV)
  /-- a call's value, and the heap behind it -/
  | res (v : AV) (hp : List Blk)
  /-- the value of a reading, of an append, .. and the heap behind it -/
  | mem (v : AV) (hp : List Blk) (fp : Fp)
  /-- the heap behind a store -/
  | sto (hp : List Blk) (fp : Fp)
  /-- a loop's end -/
  | loop (e : Ex) (st : St)

def find2 (a b : Nat) : List (Nat × Nat × Ora) → Option Ora
  | [] => none
  | (i, j, o) :: l => bif Nat.beq i a && Nat.beq j b then some o else find2 a b l

/-- what an operation's value is asked to be -/
def askOp (C : Cfg) (call : CallF) (fl : Nat) (me : FuncId) (o : Oper) (st : St) (v : AV) : Prop :=
  match o.op with
  | .binOp op t x y _ => match opv C st.tmps x, opv C st.tmps y with
    | some a, some b => binE C op t (isCst x || isCst y) a b = some v
    | _, _ => False
  | .unOp op _ x => match opv C st.tmps x with
    | some a => unE op a = some v
    | none => False
  | .indexAddr t x i => match opnd C st.tmps x, opv C st.tmps i with
    | some a, some (.int _ n) => indexAddr C t a n = some (.v v)
    | _, _ => False
  | .index t x i => match opv C st.tmps x, opv C st.tmps i with
    | some a, some (.int _ n) => indexE C t a n = some v
    | _, _ => False
  | .extract x i => match opv C st.tmps x with
    | some (.tup vs) => getAt vs i = some v
    | _ => False
  | .move x => opv C st.tmps x = some v
  | .assign x => opv C st.tmps x = some v
  | .field t x f => match opv C st.tmps x with
    | some (.agg cs) => match field C t f with
      | some (off, ti) => part ti cs off = some v
      | none => False
    | _ => False
  | _ => evOp C call fl me o st = some ⟨.v v, st.tmps, st.hp, .z⟩

theorem opv_nd {tmps : List TV} {x : Operand} {v : AV} (h : opv C tmps x = some v) : opnd C tmps x = some (.v v) := by
  unfold opv at h
  split at h
  · rename_i a ha; cases h; exact ha
  · cases h
theorem askOp_ok {o : Oper} {st : St} {v : AV} (h : askOp C call fl me o st v) : evOp C call fl me o st = some ⟨.v v, st.tmps, st.hp, .z⟩ := by
  unfold askOp at h
  split at h
  · rename_i op t x y _ hop
    split at h
    · rename_i a b ha hb
      unfold evOp
      simp only [hop, ha, hb, h, ofO, Option.map_some]
    · cases h
  · rename_i op _ x hop
    split at h
    · rename_i a ha
      unfold evOp
      simp only [hop, ha, h, ofO, Option.map_some]
    · cases h
  · rename_i t x i hop
    split at h
    · rename_i a k n ha hn
      unfold evOp
      simp only [hop, ha, hn, h, pureR, Option.bind_some]
    · cases h
  · rename_i t x i hop
    split at h
    · rename_i a k n ha hn
      unfold evOp
      simp only [hop, ha, hn, h, ofO, Option.map_some]
    · cases h
  · rename_i x i hop
    split at h
    · rename_i vs ha
      unfold evOp
      simp only [hop, ha, h, ofO, Option.map_some]
    · cases h
  · rename_i x hop
    unfold evOp
    simp only [hop, opv_nd h, Option.bind_some, pureR]
  · rename_i x hop
    unfold evOp
    simp only [hop, opv_nd h, Option.bind_some, pureR]
  · rename_i t x f hop
    split at h
    · rename_i cs ha
      split at h
      · rename_i off ti hf
        unfold evOp
        simp only [hop, ha, hf, h, ofO, Option.map_some]
      · cases h
    · cases h
  · exact h

/-- a new slice -/
def mkSl (C : Cfg) (st : St) (t : TypeId) (l c : AV) : Option Res :=
  match C.ty t, l, c with
    | some ⟨.slice e, _, _, _, _⟩, .int _ n, .int _ m => match C.ty e with
      | none => none
      | some ei => bif decide (0 ≤ n) && decide (n ≤ m) && decide (m * ei.bytes ≤ 35184372088832) && !(ei.size == 0) && !(ei.bytes == 0) then
          newBlk st (zeros ei m.toNat) (fun b => .arr ei.size b 0 n.toNat) else none
    | _, _, _ => none

/-- what a reading, an append, .. is asked to come to -/
def askMem (C : Cfg) (call : CallF) (fl : Nat) (me : FuncId) (o : Oper) (st : St) (v : AV) (hp : List Blk) (fp : Fp) : Prop :=
  match o.op with
  | .call c => match mapO (opv C st.tmps) c.args.toList, c.callee with
    | some args, .builtin b => ∀ ts, builtinE C fl (C.arrF me) ⟨ts, st.hp⟩ b c.argTypes.toList args = some ⟨.v v, ts, hp, fp⟩
    | _, _ => False
  | .load t x => match opnd C st.tmps x with
    | some (.lp s off) => match slotCells st.tmps s, C.ty t with
      | some cs, some ti => part ti cs off = some v ∧ hp = st.hp ∧ fp = .lr s
      | _, _ => False
    | some a => ∀ ts, loadAt C ⟨ts, st.hp⟩ t a = some ⟨.v v, ts, hp, fp⟩
    | none => False
  | .slice t x lo hi mx => match opnd C st.tmps x, optV C st.tmps lo, optV C st.tmps hi, optV C st.tmps mx with
    | some a, some l, some h, some m => (∀ ts, sliceE C ⟨ts, st.hp⟩ t a l h m = some v) ∧ hp = st.hp ∧ fp = slFp a
    | _, _, _, _ => False
  | .convert s d x => match opv C st.tmps x with
    | some a => ∀ ts, convE C (C.arrF me) ⟨ts, st.hp⟩ s d a = some ⟨.v v, ts, hp, fp⟩
    | none => False
  | .makeSlice t l c => match opv C st.tmps l, opv C st.tmps c with
    | some a, some b => ∀ ts, mkSl C ⟨ts, st.hp⟩ t a b = some ⟨.v v, ts, hp, fp⟩
    | _, _ => False
  | _ => evOp C call fl me o st = some ⟨.v v, st.tmps, hp, fp⟩

theorem askMem_ok {o : Oper} {st : St} {v : AV} {hp : List Blk} {fp : Fp} (h : askMem C call fl me o st v hp fp) : evOp C call fl me o st = some ⟨.v v, st.tmps, hp, fp⟩ := by
  unfold askMem at h
  split at h
  · rename_i c hop
    split at h
    · rename_i args b ha hc
      unfold evOp
      simp only [hop, ha, hc]
      exact h st.tmps
    · cases h
  · rename_i t x hop
    split at h
    · rename_i s off ha
      split at h
      · rename_i cs ti h1 h2
        obtain ⟨k1, rfl, rfl⟩ := h
        unfold evOp
        simp only [hop, ha, Option.bind_some, loadAt, h1, h2, k1, Option.map_some]
      · cases h
    · rename_i a _ ha
      unfold evOp
      simp only [hop, ha, Option.bind_some]
      exact h st.tmps
    · cases h
  · rename_i t x lo hi mx hop
    split at h
    · rename_i a l hh m h1 h2 h3 h4
      obtain ⟨k1, rfl, rfl⟩ := h
      unfold evOp
      simp only [hop, h1, h2, h3, h4]
      rw [k1 st.tmps]
      rfl
    · cases h
  · rename_i s d x hop
    split at h
    · rename_i a ha
      unfold evOp
      simp only [hop, ha]
      exact h st.tmps
    · cases h
  · rename_i t l c hop
    split at h
    · rename_i a b ha hb
      have := h st.tmps
      unfold mkSl at this
      unfold evOp
      simp only [hop]
      split at this
      · rename_i e _ _ _ _ k n k' m' h1
        simp only [h1, ha, hb]
        exact this
      · cases this
    · cases h
  · exact h

/-- what a store is asked to come to -/
def askSto (C : Cfg) (fl : Nat) (o : Oper) (st : St) (hp : List Blk) (fp : Fp) : Prop :=
  match o.op with
  | .store t x y => match opnd C st.tmps x, opv C st.tmps y with
    | some a, some u => ∀ ts, storeAt C fl ⟨ts, st.hp⟩ t a u = some ⟨.sk, ts, hp, fp⟩
    | _, _ => False
  | _ => False

theorem askSto_ok {o : Oper} {st : St} {hp : List Blk} {fp : Fp} (h : askSto C fl o st hp fp) : evOp C call fl me o st = some ⟨.sk, st.tmps, hp, fp⟩ := by
  unfold askSto at h
  split at h
  · rename_i t x y hop
    split at h
    · rename_i a u ha hu
      unfold evOp
      simp only [hop, ha, hu]
      exact h st.tmps
    · cases h
  · cases h

/-- what a call is asked to come to -/
def askCall (C : Cfg) (call : CallF) (o : Oper) (st : St) (v : AV) (hp : List Blk) : Prop :=
  match o.op with
  | .call c => match mapO (opv C st.tmps) c.args.toList, c.callee with
    | some args, .value f => match opv C st.tmps f with
      | some (.fn (.func g) first captured) => call g (first ++ args ++ captured) st.hp = some (v, hp)
      | _ => False
    | _, _ => False
  | _ => False

/-- what a call touches -/
def calleeFp (C : Cfg) (o : Oper) (st : St) : Fp :=
  match o.op with
  | .call c => match c.callee with
    | .value f => match opv C st.tmps f with
      | some (.fn (.func g) _ _) => callFp C g st.hp.length
      | _ => .hw
    | _ => .hw
  | _ => .hw

theorem askCall_ok {o : Oper} {st : St} {v : AV} {hp : List Blk} (h : askCall C call o st v hp) : evOp C call fl me o st = some ⟨.v v, st.tmps, hp, calleeFp C o st⟩ := by
  unfold askCall at h
  split at h
  · rename_i c hop
    split at h
    · rename_i args f ha hc
      split at h
      · rename_i g first captured hf
        unfold evOp calleeFp
        simp only [hop, ha, hc, hf, callE, h]
      · cases h
    · cases h
  · cases h

def evOneP (C : Cfg) (call : CallF) (fl : Nat) (me : FuncId) (ops : List Oper) (π : List (Nat × Nat × Ora)) (id j : Nat) (o : Oper) (st : St) : Option (St × Fp × Option Prop) :=
  match find2 id j π with
  | none => match evOne C call fl me ops o st with
    | some (st', f) => some (st', f, none)
    | none => none
  | some (.val v) => match wantedE ops st.tmps o with
    | some true => match put st.tmps o.dst (.v v) with
      | some t => some (⟨t, st.hp⟩, .z, some (askOp C call fl me o st v))
      | none => none
    | _ => none
  | some (.res v hp) => match wantedE ops st.tmps o with
    | some true => match put st.tmps o.dst (.v v) with
      | some t => some (⟨t, hp⟩, calleeFp C o st, some (askCall C call o st v hp))
      | none => none
    | _ => none
  | some (.mem v hp fp) => match wantedE ops st.tmps o with
    | some true => match put st.tmps o.dst (.v v) with
      | some t => some (⟨t, hp⟩, fp, some (askMem C call fl me o st v hp fp))
      | none => none
    | _ => none
  | some (.sto hp fp) => match wantedE ops st.tmps o with
    | some true => match put st.tmps o.dst .sk with
      | some t => some (⟨t, hp⟩, fp, some (askSto C fl o st hp fp))
      | none => none
    | _ => none
  | some (.loop _ _) => none

def andO : Option Prop → List Prop → List Prop
  | none, l => l
  | some p, l => p :: l

def runOpsP (C : Cfg) (call : CallF) (fl : Nat) (me : FuncId) (ops : List Oper) (π : List (Nat × Nat × Ora)) (id : Nat) : Nat → List Oper → St → Option (St × List Fp × List Prop)
  | _, [], st => some (st, [], [])
  | j, o :: rest, st => match evOneP C call fl me ops π id j o st with
    | some (st1, f, φ) => match runOpsP C call fl me ops π id (j + 1) rest st1 with
      | some (st', fps, φs) => some (st', f :: fps, andO φ φs)
      | none => none
    | none => none

/-- a loop out of a head that is clean -/
def evLoopC (body : St → Option (Ex × St)) (clean : St → St) : Nat → St → Option (Ex × St)
  | 0, _ => none
  | k + 1, st => match body st with
    | some (.normal, st') => evLoopC body clean k (clean st')
    | r => r

theorem evLoopC_ok (body : St → Option (Ex × St)) (clean : St → St) : ∀ (k : Nat) (st : St), evLoop body clean k st = evLoopC body clean k (clean st)
  | 0, _ => rfl
  | k + 1, st => by
    simp only [evLoop, evLoopC]
    split
    · rename_i st' h; rw [h]; exact evLoopC_ok body clean k st'
    · rename_i h
      split
      · rename_i st' h2; exact absurd h2 (h st')
      · rfl

/-- a loop out of a clean head, to a clean end -/
def loopN (C : Cfg) (call : CallF) (fl : Nat) (me : FuncId) (k : Nat) (b : Code) (r n : Nat) (st : St) : Option (Ex × St) :=
  (evLoopC (run C call fl me k b) (cleanSt (C.loop me r)) n st).map fun p => (p.1, cleanSt (C.after me r) p.2)

def runP (C : Cfg) (call : CallF) (fl : Nat) (me : FuncId) (k : Nat) (π : List (Nat × Nat × Ora)) : Code → St → Option (Ex × St × List Prop)
  | .skip, st => some (.normal, st, [])
  | .region id ops draw, st => match runOpsP C call fl me ops.toList π id 0 ops.toList st with
    | some (st', fps, φs) => bif !draw || noClash fps (C.pairs me id) then some (.normal, st', φs) else none
    | none => none
  | .seq a b, st => match runP C call fl me k π a st with
    | some (.normal, st', φs) => match runP C call fl me k π b st' with
      | some (e, st'', ψs) => some (e, st'', φs ++ ψs)
      | none => none
    | r => r
  | .cond c a b, st => match opv C st.tmps c with
    | some (.bool t) => bif t then runP C call fl me k π a st else runP C call fl me k π b st
    | _ => none
  | .block id b, st => match runP C call fl me k π b st with
    | some (.exit j, st', φs) => bif Nat.beq j id then some (.normal, st', φs) else some (.exit j, st', φs)
    | r => r
  | .loop b, st => match find2 (firstReg b) 1000000 π with
    | some (.loop e st') => some (e, st', [loopN C call fl me k b (firstReg b) k (cleanSt (C.loop me (firstReg b)) st) = some (e, st')])
    | _ => none
  | .exit id, st => some (.exit id, st, [])
  | .ret, st => some (.ret, st, [])
  | _, _ => none

def allP : List Prop → Prop
  | [] => True
  | [p] => p
  | p :: q :: ps => p ∧ allP (q :: ps)

theorem allP_cons {p : Prop} {ps : List Prop} : allP (p :: ps) ↔ p ∧ allP ps := by cases ps <;> simp [allP]
theorem allP_append : ∀ {ps qs : List Prop}, allP (ps ++ qs) ↔ allP ps ∧ allP qs
  | [], qs => by simp [allP]
  | p :: ps, qs => by rw [List.cons_append, allP_cons, allP_cons, allP_append, and_assoc]

theorem evOneP_ok {ops : List Oper} {π : List (Nat × Nat × Ora)} {id j : Nat} {o : Oper} {st st' : St} {f : Fp} {φ : Option Prop} (h : evOneP C call fl me ops π id j o st = some (st', f, φ)) (hφ : ∀ p, φ = some p → p) :
    evOne C call fl me ops o st = some (st', f) := by
  unfold evOneP at h
  split at h
  · split at h
    · rename_i h1; cases h; exact h1
    · cases h
  · split at h
    · rename_i hw
      split at h
      · rename_i t ht
        cases h
        unfold evOne
        simp only [hw, askOp_ok (hφ _ rfl), ht]
      · cases h
    · cases h
  · split at h
    · rename_i hw
      split at h
      · rename_i t ht
        cases h
        unfold evOne
        simp only [hw, askCall_ok (hφ _ rfl), ht]
      · cases h
    · cases h
  · split at h
    · rename_i hw
      split at h
      · rename_i t ht
        cases h
        unfold evOne
        simp only [hw, askMem_ok (hφ _ rfl), ht]
      · cases h
    · cases h
  · split at h
    · rename_i hw
      split at h
      · rename_i t ht
        cases h
        unfold evOne
        simp only [hw, askSto_ok (hφ _ rfl), ht]
      · cases h
    · cases h
  · cases h

theorem runOpsP_ok {ops : List Oper} {π : List (Nat × Nat × Ora)} {id : Nat} : ∀ (l : List Oper) (j : Nat) (st st' : St) (fps : List Fp) (φs : List Prop), runOpsP C call fl me ops π id j l st = some (st', fps, φs) → allP φs →
    runOps C call fl me ops l st = some (st', fps)
  | [], j, st, st', fps, φs, h, _ => by simp only [runOpsP, Option.some.injEq, Prod.mk.injEq] at h; obtain ⟨rfl, rfl, _⟩ := h; rfl
  | o :: l, j, st, st', fps, φs, h, hφ => by
    simp only [runOpsP] at h
    split at h
    · rename_i st1 f φ h1
      split at h
      · rename_i st2 fs ψ h2
        cases h
        have hh : (∀ p, φ = some p → p) ∧ allP ψ := by
          cases φ with
          | none => exact ⟨fun p h => (by cases h), hφ⟩
          | some p => have := allP_cons.1 hφ; exact ⟨fun q h => by cases h; exact this.1, this.2⟩
        simp only [runOps, evOneP_ok h1 hh.1, runOpsP_ok l (j + 1) st1 st' fs ψ h2 hh.2]
      · cases h
    · cases h

theorem runP_ok {k : Nat} {π : List (Nat × Nat × Ora)} : ∀ (c : Code) (st st' : St) (e : Ex) (φs : List Prop), runP C call fl me k π c st = some (e, st', φs) → allP φs → run C call fl me k c st = some (e, st')
  | .skip, st, st', e, φs, h, _ => by simp only [runP, Option.some.injEq, Prod.mk.injEq] at h; obtain ⟨rfl, rfl, _⟩ := h; rfl
  | .exit id, st, st', e, φs, h, _ => by simp only [runP, Option.some.injEq, Prod.mk.injEq] at h; obtain ⟨rfl, rfl, _⟩ := h; rfl
  | .ret, st, st', e, φs, h, _ => by simp only [runP, Option.some.injEq, Prod.mk.injEq] at h; obtain ⟨rfl, rfl, _⟩ := h; rfl
  | .region id ops draw, st, st', e, φs, h, hφ => by
    simp only [runP] at h
    split at h
    · rename_i st1 fps ψ h1
      cases hb : (!draw || noClash fps (C.pairs me id)) with
      | false => rw [hb] at h; cases h
      | true =>
        rw [hb, cond_true rfl] at h
        cases h
        simp only [run, runOpsP_ok _ 0 st st' fps φs h1 hφ, hb, cond_true rfl]
    · cases h
  | .seq x y, st, st', e, φs, h, hφ => by
    simp only [runP] at h
    split at h
    · rename_i st1 ψ h1
      split at h
      · rename_i e2 st2 χ h2
        cases h
        obtain ⟨g1, g2⟩ := allP_append.1 hφ
        simp only [run, runP_ok x st st1 .normal ψ h1 g1]
        exact runP_ok y st1 st' e χ h2 g2
      · cases h
    · rename_i hne
      simp only [run, runP_ok x st st' e φs h hφ]
      cases e with
      | normal => exact absurd h (hne st' φs)
      | exit id => rfl
      | ret => rfl
  | .cond c x y, st, st', e, φs, h, hφ => by
    simp only [runP] at h
    split at h
    · rename_i t ht
      simp only [run, ht]
      cases t with
      | true => exact runP_ok x st st' e φs h hφ
      | false => exact runP_ok y st st' e φs h hφ
    · cases h
  | .block id x, st, st', e, φs, h, hφ => by
    simp only [runP] at h
    split at h
    · rename_i j st1 ψ h1
      cases hj : Nat.beq j id with
      | true =>
        rw [hj, cond_true rfl] at h; cases h
        have : (j == id) = true := by simpa using Nat.eq_of_beq_eq_true hj
        simp only [run, runP_ok x st st' (.exit j) φs h1 hφ, this, cond_true rfl]
      | false =>
        rw [hj, cond_false rfl] at h; cases h
        have : (j == id) = false := by simpa using Nat.ne_of_beq_eq_false hj
        simp only [run, runP_ok x st st' (.exit j) φs h1 hφ, this, cond_false rfl]
    · rename_i hne
      simp only [run, runP_ok x st st' e φs h hφ]
      cases e with
      | normal => rfl
      | exit j => exact absurd h (hne j st' φs)
      | ret => rfl
  | .loop x, st, st', e, φs, h, hφ => by
    simp only [runP] at h
    split at h
    · cases h
      have hφ := (allP_cons.1 hφ).1
      unfold loopN at hφ
      simp only [Option.map_eq_some_iff, Prod.mk.injEq] at hφ
      obtain ⟨p, h1, h2, h3⟩ := hφ
      obtain ⟨e', st0⟩ := p
      dsimp only at h2 h3
      subst h2
      simp only [run, evLoopC_ok, h1, h3]
    · cases h
  | .rangeFunc .., st, st', e, φs, h, _ => by simp [runP] at h
  | .scope .., st, st', e, φs, h, _ => by simp [runP] at h
  | .label .., st, st', e, φs, h, _ => by simp [runP] at h
  | .goto .., st, st', e, φs, h, _ => by simp [runP] at h
  | .refuse .., st, st', e, φs, h, _ => by simp [runP] at h

/-- a call along one way -/
def evCallP (C : Cfg) (k fl : Nat) (π : List (Nat × Nat × Ora)) (f : FuncId) (args : List AV) (hp : List Blk) : Option (AV × List Blk × List Prop) :=
  match C.ext f with
  | some _ => none
  | none => match C.code f with
    | none => none
    | some fi =>
      let fl' := match C.kind f with | .pure => hp.length | .new => hp.length | _ => fl
      match runP C (evCall C k fl') fl' f k π fi.body ⟨args.map .v ++ List.replicate (fi.ntmps - args.length) .sk, hp⟩ with
      | some (.exit _, _) => none
      | some (_, st, φs) => match resultsE C st fi.results with
        | none => none
        | some rs => match C.kind f with
          | .pure => match shutV st.hp hp.length 100000 (one rs) with
            | some v => some (v, hp, φs)
            | none => none
          | .mut => bif !cloH hp.length (st.hp.take hp.length) then none else
            match shutV st.hp hp.length 100000 (one rs) with
            | some v => some (v, st.hp.take hp.length, φs)
            | none => none
          | .keep => some (one rs, st.hp, φs)
          | .new => some (one rs, st.hp, φs)
      | none => none

theorem evP {k fl : Nat} (π : List (Nat × Nat × Ora)) {f : FuncId} {args : List AV} {hp hp' : List Blk} {v : AV} {φs : List Prop} (h : evCallP C k fl π f args hp = some (v, hp', φs)) (hφ : allP φs) : evCall C (k + 1) fl f args hp = some (v, hp') := by
  unfold evCallP at h
  unfold evCall
  split at h
  · cases h
  · rename_i he
    rw [he]
    dsimp only
    split at h
    · cases h
    · rename_i fi hfi
      rw [hfi]
      cases hk : C.kind f
      case pure =>
        simp only [hk] at h ⊢
        split at h
        · cases h
        · rename_i e st ψ hne hr
          split at h
          · cases h
          · rename_i rs hrs
            split at h
            · rename_i v' h1
              cases h
              rw [runP_ok _ _ _ _ _ hr hφ]
              cases e with
              | exit j => exact absurd rfl (hne j)
              | normal => simp only [hrs, h1]
              | ret => simp only [hrs, h1]
            · cases h
        · cases h
      case «mut» =>
        simp only [hk] at h ⊢
        split at h
        · cases h
        · rename_i e st ψ hne hr
          split at h
          · cases h
          · rename_i rs hrs
            simp only [cond_eq_ite] at h ⊢
            split at h
            · cases h
            · rename_i h0
              split at h
              · rename_i v' h1
                cases h
                rw [runP_ok _ _ _ _ _ hr hφ]
                cases e with
                | exit j => exact absurd rfl (hne j)
                | normal => simp only [hrs]; rw [if_neg h0]; simp only [h1]
                | ret => simp only [hrs]; rw [if_neg h0]; simp only [h1]
              · cases h
        · cases h
      case keep =>
        simp only [hk] at h ⊢
        split at h
        · cases h
        · rename_i e st ψ hne hr
          split at h
          · cases h
          · rename_i rs hrs
            cases h
            rw [runP_ok _ _ _ _ _ hr hφ]
            cases e with
            | exit j => exact absurd rfl (hne j)
            | normal => simp only [hrs]
            | ret => simp only [hrs]
        · cases h
      case new =>
        simp only [hk] at h ⊢
        split at h
        · cases h
        · rename_i e st ψ hne hr
          split at h
          · cases h
          · rename_i rs hrs
            cases h
            rw [runP_ok _ _ _ _ _ hr hφ]
            cases e with
            | exit j => exact absurd rfl (hne j)
            | normal => simp only [hrs]
            | ret => simp only [hrs]
        · cases h

/-- slots, told sparsely -/
def slots (n : Nat) (l : List (Nat × AV)) : List TV := (List.range n).map fun i => match lookN i l with
  | some v => .v v
  | none => .junk
/-- the body of the loop whose first region has a number -/
def loopAt (r : Nat) : Code → Option Code
  | .seq a b => match loopAt r a with
    | some c => some c
    | none => loopAt r b
  | .cond _ a b => match loopAt r a with
    | some c => some c
    | none => loopAt r b
  | .block _ a => loopAt r a
  | .loop a => bif Nat.beq (firstReg a) r then some a else loopAt r a
  | _ => none

theorem loop_step {k : Nat} {π : List (Nat × Nat × Ora)} {b : Code} {r n : Nat} {st st' : St} {φs : List Prop} (h : (runP C call fl me k π b st).map (fun p => (p.1, cleanSt (C.loop me r) p.2.1, p.2.2)) = some (.normal, st', φs)) (hφ : allP φs) :
    loopN C call fl me k b r (n + 1) st = loopN C call fl me k b r n st' := by
  simp only [Option.map_eq_some_iff, Prod.mk.injEq] at h
  obtain ⟨⟨e, s, ψ⟩, h1, h2, h3, h4⟩ := h
  dsimp only at h2 h3 h4
  subst h2 h3 h4
  unfold loopN
  rw [evLoopC, runP_ok _ _ _ _ _ h1 hφ]

theorem loop_exit {k : Nat} {π : List (Nat × Nat × Ora)} {b : Code} {r n : Nat} {st st' : St} {e : Ex} {φs : List Prop} (h : (runP C call fl me k π b st).map (fun p => (p.1, cleanSt (C.after me r) p.2.1, p.2.2)) = some (e, st', φs)) (he : e ≠ .normal) (hφ : allP φs) :
    loopN C call fl me k b r (n + 1) st = some (e, st') := by
  simp only [Option.map_eq_some_iff, Prod.mk.injEq] at h
  obtain ⟨⟨e', s, ψ⟩, h1, h2, h3, h4⟩ := h
  dsimp only at h2 h3 h4
  subst h2 h3 h4
  unfold loopN
  rw [evLoopC, runP_ok _ _ _ _ _ h1 hφ]
  cases e' with
  | normal => exact absurd rfl he
  | exit j => rfl
  | ret => rfl

def isExit : Ex → Bool
  | .exit _ => true
  | _ => false

/-- a call whose result is read out of a heap that is not known -/
theorem evPure {k fl : Nat} (π : List (Nat × Nat × Ora)) {f : FuncId} {args : List AV} {hp hpF : List Blk} {v : AV} {rs : List AV} {φs : List Prop} {fi : FI} (he : C.ext f = none) (hf : C.code f = some fi) (hk : C.kind f = .pure)
    (h : (runP C (evCall C k hp.length) hp.length f k π fi.body ⟨args.map .v ++ List.replicate (fi.ntmps - args.length) .sk, hp⟩).map (fun p => (isExit p.1, resultsE C p.2.1 fi.results, p.2.1.hp, p.2.2)) = some (false, some rs, hpF, φs)) (hφ : allP φs)
    (hs : shutV hpF hp.length 100000 (one rs) = some v) : evCall C (k + 1) fl f args hp = some (v, hp) := by
  simp only [Option.map_eq_some_iff, Prod.mk.injEq] at h
  obtain ⟨⟨e, s, ψ⟩, h1, h2, h3, h4, h5⟩ := h
  dsimp only at h2 h3 h4 h5
  subst h4 h5
  have hr := runP_ok _ _ _ _ _ h1 hφ
  unfold evCall
  simp only [he, hf, hk]
  rw [hr]
  cases e with
  | exit j => cases h2
  | normal => simp only [h3, hs]
  | ret => simp only [h3, hs]
end Go.Proofs.YtkocimfdgdegfaaGreatDoor.E
