/- Steps of the seat's proofs: an evaluator of the program's code, its soundness, and what the functions come to. -/
import Derived.Test.YtanopbolgfcojaaDoorEah
set_option linter.unusedSimpArgs false
set_option linter.unusedVariables false
/- The law RexForms: the walk. -/
namespace Go.Proofs.YtanopbolgfcojaaDoor.E.S4
open Go Go.Proofs E E.R
theorem rf_1 {m : Int} {x y z : AV} {a b c : List UInt8} {na nb nc nq ns : Node} {ka kb kc kp kq kr ks kt : AV} {pa pb pc pp pq pr ps pt ea eb ec eq es : Int} (hex : evI (cfg m) 0 10 [] [] = some (.bool true, [])) (hxa : evI (cfg m) 0 17 [x] [] = some (.str a, [])) (hxb : evI (cfg m) 0 17 [y] [] = some (.str b, [])) (hxc : evI (cfg m) 0 17 [z] [] = some (.str c, [])) (la : a.length ≤ 80) (lb : b.length ≤ 80) (lc : c.length ≤ 80) (hpa : evI (cfg m) 0 18 [.str (a)] [] = some (.tup [nAV na ka, .int .i64 pa, .int .i64 ea], [])) (hpb : evI (cfg m) 0 18 [.str (b)] [] = some (.tup [nAV nb kb, .int .i64 pb, .int .i64 eb], [])) (hpc : evI (cfg m) 0 18 [.str (c)] [] = some (.tup [nAV nc kc, .int .i64 pc, .int .i64 ec], [])) (g1 : ¬ ea = 0) : evI (cfg m) 0 8 [x, y, z] [] = some (.bool true, []) := by
  exact E.evX (AV.bool true) ([]) [.c 1 0 hex, .c 4 1 hxa, .c 5 1 hxb, .c 6 1 hxc, .c 7 1 hpa, .c 8 1 hpb, .c 9 1 hpc, .b 10 1 (bne_iff_ne.2 (g1))] (by kernel_rfl) (E.tlP (by kernel_rfl) rfl (E.shutT (v := AV.bool true) (v' := AV.bool true) (by kernel_rfl))) rfl

theorem rf_2 {m : Int} {x y z : AV} {a b c : List UInt8} {na nb nc nq ns : Node} {ka kb kc kp kq kr ks kt : AV} {pa pb pc pp pq pr ps pt ea eb ec eq es : Int} (hex : evI (cfg m) 0 10 [] [] = some (.bool true, [])) (hxa : evI (cfg m) 0 17 [x] [] = some (.str a, [])) (hxb : evI (cfg m) 0 17 [y] [] = some (.str b, [])) (hxc : evI (cfg m) 0 17 [z] [] = some (.str c, [])) (la : a.length ≤ 80) (lb : b.length ≤ 80) (lc : c.length ≤ 80) (hpa : evI (cfg m) 0 18 [.str (a)] [] = some (.tup [nAV na ka, .int .i64 pa, .int .i64 ea], [])) (hpb : evI (cfg m) 0 18 [.str (b)] [] = some (.tup [nAV nb kb, .int .i64 pb, .int .i64 eb], [])) (hpc : evI (cfg m) 0 18 [.str (c)] [] = some (.tup [nAV nc kc, .int .i64 pc, .int .i64 ec], [])) (g1 : ea = 0) (g2 : ¬ eb = 0) : evI (cfg m) 0 8 [x, y, z] [] = some (.bool true, []) := by
  exact E.evX (AV.bool true) ([]) [.c 1 0 hex, .c 4 1 hxa, .c 5 1 hxb, .c 6 1 hxc, .c 7 1 hpa, .c 8 1 hpb, .c 9 1 hpc, .b 10 1 (bne_eq_false_iff_eq.2 (g1)), .b 10 4 (bne_iff_ne.2 (g2))] (by kernel_rfl) (E.tlP (by kernel_rfl) rfl (E.shutT (v := AV.bool true) (v' := AV.bool true) (by kernel_rfl))) rfl

theorem rf_3 {m : Int} {x y z : AV} {a b c : List UInt8} {na nb nc nq ns : Node} {ka kb kc kp kq kr ks kt : AV} {pa pb pc pp pq pr ps pt ea eb ec eq es : Int} (hex : evI (cfg m) 0 10 [] [] = some (.bool true, [])) (hxa : evI (cfg m) 0 17 [x] [] = some (.str a, [])) (hxb : evI (cfg m) 0 17 [y] [] = some (.str b, [])) (hxc : evI (cfg m) 0 17 [z] [] = some (.str c, [])) (la : a.length ≤ 80) (lb : b.length ≤ 80) (lc : c.length ≤ 80) (hpa : evI (cfg m) 0 18 [.str (a)] [] = some (.tup [nAV na ka, .int .i64 pa, .int .i64 ea], [])) (hpb : evI (cfg m) 0 18 [.str (b)] [] = some (.tup [nAV nb kb, .int .i64 pb, .int .i64 eb], [])) (hpc : evI (cfg m) 0 18 [.str (c)] [] = some (.tup [nAV nc kc, .int .i64 pc, .int .i64 ec], [])) (g1 : ea = 0) (g2 : eb = 0) (g3 : ¬ ec = 0) : evI (cfg m) 0 8 [x, y, z] [] = some (.bool true, []) := by
  exact E.evX (AV.bool true) ([]) [.c 1 0 hex, .c 4 1 hxa, .c 5 1 hxb, .c 6 1 hxc, .c 7 1 hpa, .c 8 1 hpb, .c 9 1 hpc, .b 10 1 (bne_eq_false_iff_eq.2 (g1)), .b 10 4 (bne_eq_false_iff_eq.2 (g2)), .b 10 8 (bne_iff_ne.2 (g3))] (by kernel_rfl) (E.tlP (by kernel_rfl) rfl (E.shutT (v := AV.bool true) (v' := AV.bool true) (by kernel_rfl))) rfl

theorem rf_4 {m : Int} {x y z : AV} {a b c : List UInt8} {na nb nc nq ns : Node} {ka kb kc kp kq kr ks kt : AV} {pa pb pc pp pq pr ps pt ea eb ec eq es : Int} (hex : evI (cfg m) 0 10 [] [] = some (.bool true, [])) (hxa : evI (cfg m) 0 17 [x] [] = some (.str a, [])) (hxb : evI (cfg m) 0 17 [y] [] = some (.str b, [])) (hxc : evI (cfg m) 0 17 [z] [] = some (.str c, [])) (la : a.length ≤ 80) (lb : b.length ≤ 80) (lc : c.length ≤ 80) (hpa : evI (cfg m) 0 18 [.str (a)] [] = some (.tup [nAV na ka, .int .i64 pa, .int .i64 ea], [])) (hpb : evI (cfg m) 0 18 [.str (b)] [] = some (.tup [nAV nb kb, .int .i64 pb, .int .i64 eb], [])) (hpc : evI (cfg m) 0 18 [.str (c)] [] = some (.tup [nAV nc kc, .int .i64 pc, .int .i64 ec], [])) (g1 : ea = 0) (g2 : eb = 0) (g3 : ec = 0) (g4 : 200 < (a.length : Int) + (b.length : Int) + (c.length : Int)) : evI (cfg m) 0 8 [x, y, z] [] = some (.bool true, []) := by
  exact E.evX (AV.bool true) ([]) [.c 1 0 hex, .c 4 1 hxa, .c 5 1 hxb, .c 6 1 hxc, .c 7 1 hpa, .c 8 1 hpb, .c 9 1 hpc, .b 10 1 (bne_eq_false_iff_eq.2 (g1)), .b 10 4 (bne_eq_false_iff_eq.2 (g2)), .b 10 8 (bne_eq_false_iff_eq.2 (g3)), .w 10 15 IntKind.i64 ((↑a.length : Int) + (↑b.length : Int)) (E.wrap_i64' (by omega)), .w 10 18 IntKind.i64 ((↑a.length : Int) + (↑b.length : Int) + (↑c.length : Int)) (E.wrap_i64' (by omega)), .b 10 19 (decide_eq_true (g4))] (by kernel_rfl) (E.tlP (by kernel_rfl) rfl (E.shutT (v := AV.bool true) (v' := AV.bool true) (by kernel_rfl))) rfl

theorem rf_5 {m : Int} {x y z : AV} {a b c : List UInt8} {na nb nc nq ns : Node} {ka kb kc kp kq kr ks kt : AV} {pa pb pc pp pq pr ps pt ea eb ec eq es : Int} (hex : evI (cfg m) 0 10 [] [] = some (.bool true, [])) (hxa : evI (cfg m) 0 17 [x] [] = some (.str a, [])) (hxb : evI (cfg m) 0 17 [y] [] = some (.str b, [])) (hxc : evI (cfg m) 0 17 [z] [] = some (.str c, [])) (la : a.length ≤ 80) (lb : b.length ≤ 80) (lc : c.length ≤ 80) (hpa : evI (cfg m) 0 18 [.str (a)] [] = some (.tup [nAV na ka, .int .i64 pa, .int .i64 ea], [])) (hpb : evI (cfg m) 0 18 [.str (b)] [] = some (.tup [nAV nb kb, .int .i64 pb, .int .i64 eb], [])) (hpc : evI (cfg m) 0 18 [.str (c)] [] = some (.tup [nAV nc kc, .int .i64 pc, .int .i64 ec], [])) (g1 : ea = 0) (g2 : eb = 0) (g3 : ec = 0) (g4 : ¬ 200 < (a.length : Int) + (b.length : Int) + (c.length : Int)) (hpp : evI (cfg m) 0 18 [.str ([40, 40] ++ a ++ [41, 41])] [] = some (.tup [nAV na kp, .int .i64 pp, .int .i64 0], [])) (hpq : evI (cfg m) 0 18 [.str ([40] ++ a ++ [41, 40, 40] ++ b ++ [41, 40] ++ c ++ [41, 41])] [] = some (.tup [nAV nq kq, .int .i64 pq, .int .i64 eq], [])) (hpr : evI (cfg m) 0 18 [.str ([40, 40] ++ a ++ [41, 40] ++ b ++ [41, 41, 40] ++ c ++ [41])] [] = some (.tup [nAV nq kr, .int .i64 pr, .int .i64 eq], [])) (hps : evI (cfg m) 0 18 [.str ([40] ++ a ++ [41, 124, 40, 40] ++ b ++ [41, 124, 40] ++ c ++ [41, 41])] [] = some (.tup [nAV ns ks, .int .i64 ps, .int .i64 es], [])) (hpt : evI (cfg m) 0 18 [.str ([40, 40] ++ a ++ [41, 124, 40] ++ b ++ [41, 41, 124] ++ c)] [] = some (.tup [nAV ns kt, .int .i64 pt, .int .i64 es], [])) (sm1 : evI (cfg m) 0 21 [nAV na ka, nAV na kp] [] = some (.bool true, [])) (sm2 : evI (cfg m) 0 21 [nAV nq kq, nAV nq kr] [] = some (.bool true, [])) (sm3 : evI (cfg m) 0 21 [nAV ns ks, nAV ns kt] [] = some (.bool true, [])) : evI (cfg m) 0 8 [x, y, z] [] = some (.bool true, []) := by
  exact E.evX (AV.bool true) ([]) [.c 1 0 hex, .c 4 1 hxa, .c 5 1 hxb, .c 6 1 hxc, .c 7 1 hpa, .c 8 1 hpb, .c 9 1 hpc, .b 10 1 (bne_eq_false_iff_eq.2 (g1)), .b 10 4 (bne_eq_false_iff_eq.2 (g2)), .b 10 8 (bne_eq_false_iff_eq.2 (g3)), .w 10 15 IntKind.i64 ((↑a.length : Int) + (↑b.length : Int)) (E.wrap_i64' (by omega)), .w 10 18 IntKind.i64 ((↑a.length : Int) + (↑b.length : Int) + (↑c.length : Int)) (E.wrap_i64' (by omega)), .b 10 19 (decide_eq_false (g4)), .v 12 1 (E.strOp_add (x := [40, 40]) (y := a) (by simp only [E.setAt_length, List.length_append, List.length_cons, List.length_nil, List.length_map] at *; omega)), .v 12 2 (E.strOp_add (x := [40, 40] ++ a) (y := [41, 41]) (by simp only [E.setAt_length, List.length_append, List.length_cons, List.length_nil, List.length_map] at *; omega)), .c 12 3 hpp, .v 13 1 (E.strOp_add (x := [40]) (y := a) (by simp only [E.setAt_length, List.length_append, List.length_cons, List.length_nil, List.length_map] at *; omega)), .v 13 2 (E.strOp_add (x := [40] ++ a) (y := [41, 40, 40]) (by simp only [E.setAt_length, List.length_append, List.length_cons, List.length_nil, List.length_map] at *; omega)), .v 13 4 (E.strOp_add (x := [40] ++ a ++ [41, 40, 40]) (y := b) (by simp only [E.setAt_length, List.length_append, List.length_cons, List.length_nil, List.length_map] at *; omega)), .v 13 5 (E.strOp_add (x := [40] ++ a ++ [41, 40, 40] ++ b) (y := [41, 40]) (by simp only [E.setAt_length, List.length_append, List.length_cons, List.length_nil, List.length_map] at *; omega)), .v 13 7 (E.strOp_add (x := [40] ++ a ++ [41, 40, 40] ++ b ++ [41, 40]) (y := c) (by simp only [E.setAt_length, List.length_append, List.length_cons, List.length_nil, List.length_map] at *; omega)), .v 13 8 (E.strOp_add (x := [40] ++ a ++ [41, 40, 40] ++ b ++ [41, 40] ++ c) (y := [41, 41]) (by simp only [E.setAt_length, List.length_append, List.length_cons, List.length_nil, List.length_map] at *; omega)), .c 13 9 hpq, .v 14 1 (E.strOp_add (x := [40, 40]) (y := a) (by simp only [E.setAt_length, List.length_append, List.length_cons, List.length_nil, List.length_map] at *; omega)), .v 14 2 (E.strOp_add (x := [40, 40] ++ a) (y := [41, 40]) (by simp only [E.setAt_length, List.length_append, List.length_cons, List.length_nil, List.length_map] at *; omega)), .v 14 4 (E.strOp_add (x := [40, 40] ++ a ++ [41, 40]) (y := b) (by simp only [E.setAt_length, List.length_append, List.length_cons, List.length_nil, List.length_map] at *; omega)), .v 14 5 (E.strOp_add (x := [40, 40] ++ a ++ [41, 40] ++ b) (y := [41, 41, 40]) (by simp only [E.setAt_length, List.length_append, List.length_cons, List.length_nil, List.length_map] at *; omega)), .v 14 7 (E.strOp_add (x := [40, 40] ++ a ++ [41, 40] ++ b ++ [41, 41, 40]) (y := c) (by simp only [E.setAt_length, List.length_append, List.length_cons, List.length_nil, List.length_map] at *; omega)), .v 14 8 (E.strOp_add (x := [40, 40] ++ a ++ [41, 40] ++ b ++ [41, 41, 40] ++ c) (y := [41]) (by simp only [E.setAt_length, List.length_append, List.length_cons, List.length_nil, List.length_map] at *; omega)), .c 14 9 hpr, .v 15 1 (E.strOp_add (x := [40]) (y := a) (by simp only [E.setAt_length, List.length_append, List.length_cons, List.length_nil, List.length_map] at *; omega)), .v 15 2 (E.strOp_add (x := [40] ++ a) (y := [41, 124, 40, 40]) (by simp only [E.setAt_length, List.length_append, List.length_cons, List.length_nil, List.length_map] at *; omega)), .v 15 4 (E.strOp_add (x := [40] ++ a ++ [41, 124, 40, 40]) (y := b) (by simp only [E.setAt_length, List.length_append, List.length_cons, List.length_nil, List.length_map] at *; omega)), .v 15 5 (E.strOp_add (x := [40] ++ a ++ [41, 124, 40, 40] ++ b) (y := [41, 124, 40]) (by simp only [E.setAt_length, List.length_append, List.length_cons, List.length_nil, List.length_map] at *; omega)), .v 15 7 (E.strOp_add (x := [40] ++ a ++ [41, 124, 40, 40] ++ b ++ [41, 124, 40]) (y := c) (by simp only [E.setAt_length, List.length_append, List.length_cons, List.length_nil, List.length_map] at *; omega)), .v 15 8 (E.strOp_add (x := [40] ++ a ++ [41, 124, 40, 40] ++ b ++ [41, 124, 40] ++ c) (y := [41, 41]) (by simp only [E.setAt_length, List.length_append, List.length_cons, List.length_nil, List.length_map] at *; omega)), .c 15 9 hps, .v 16 1 (E.strOp_add (x := [40, 40]) (y := a) (by simp only [E.setAt_length, List.length_append, List.length_cons, List.length_nil, List.length_map] at *; omega)), .v 16 2 (E.strOp_add (x := [40, 40] ++ a) (y := [41, 124, 40]) (by simp only [E.setAt_length, List.length_append, List.length_cons, List.length_nil, List.length_map] at *; omega)), .v 16 4 (E.strOp_add (x := [40, 40] ++ a ++ [41, 124, 40]) (y := b) (by simp only [E.setAt_length, List.length_append, List.length_cons, List.length_nil, List.length_map] at *; omega)), .v 16 5 (E.strOp_add (x := [40, 40] ++ a ++ [41, 124, 40] ++ b) (y := [41, 41, 124]) (by simp only [E.setAt_length, List.length_append, List.length_cons, List.length_nil, List.length_map] at *; omega)), .v 16 7 (E.strOp_add (x := [40, 40] ++ a ++ [41, 124, 40] ++ b ++ [41, 41, 124]) (y := c) (by simp only [E.setAt_length, List.length_append, List.length_cons, List.length_nil, List.length_map] at *; omega)), .c 16 8 hpt, .b 17 2 (bne_eq_false_iff_eq.2 ((show eq = eq from rfl))), .b 17 6 (bne_eq_false_iff_eq.2 ((show es = es from rfl))), .c 19 8 sm1, .c 19 13 sm2, .c 19 18 sm3] (by kernel_rfl) (E.tlP (by kernel_rfl) rfl (E.shutT (v := AV.bool true) (v' := AV.bool true) (by kernel_rfl))) rfl

end Go.Proofs.YtanopbolgfcojaaDoor.E.S4

/- The law RexForms. -/
namespace Go.Proofs.YtanopbolgfcojaaDoor.E.S4
open Go Go.Proofs E E.R
/-- nodes one behind the other, of what stands there -/
def mkC (f : List Node) : Node := match f with
  | [] => .empty
  | [n] => n
  | f => .mk 4 W4.zero 0 0 f
theorem full_flat : ∀ {l : List Node}, (∀ n ∈ l, Shape n) → full (flatF 4 l) = (l.map pieces).flatten
  | [], _ => rfl
  | n :: l, h => by
    have ih := full_flat (l := l) fun q hq => h q (by simp [hq])
    have hs := h n (by simp)
    have e : full (if n.kind = 4 then n.kids else [n]) = pieces n := by
      unfold pieces
      cases hs with
      | empty => rfl
      | one => rfl
      | beg => rfl
      | fin => rfl
      | cat l _ hk => exact full_self fun k hk' => (hk k hk').1
      | alt => rfl
      | rep => rfl
    simp only [flatF, List.map_cons, List.flatten_cons, ← e, ← ih]
    unfold full
    rw [List.filter_append]
theorem catF_mk {l : List Node} (h : ∀ n ∈ l, Shape n) : catF l = mkC ((l.map pieces).flatten) := by
  unfold catF mkC
  rw [full_flat h]
  try rfl
theorem pieces_kind {n k : Node} (h : Shape n) (hk : k ∈ pieces n) : k.kind ≠ 0 ∧ k.kind ≠ 4 := by
  unfold pieces at hk
  cases h with
  | empty => cases hk
  | cat l _ hl => exact hl k hk
  | one => rw [List.mem_singleton.1 hk]; exact ⟨by simp [Node.kind], by simp [Node.kind]⟩
  | beg => rw [List.mem_singleton.1 hk]; exact ⟨by simp [Node.kind], by simp [Node.kind]⟩
  | fin => rw [List.mem_singleton.1 hk]; exact ⟨by simp [Node.kind], by simp [Node.kind]⟩
  | alt => rw [List.mem_singleton.1 hk]; exact ⟨by simp [Node.kind], by simp [Node.kind]⟩
  | rep => rw [List.mem_singleton.1 hk]; exact ⟨by simp [Node.kind], by simp [Node.kind]⟩
theorem pieces_mkC {f : List Node} (h : ∀ k ∈ f, k.kind ≠ 0 ∧ k.kind ≠ 4) : pieces (mkC f) = f := by
  match f with
  | [] => rfl
  | [n] =>
    have := h n (by simp)
    show pieces n = [n]
    unfold pieces
    rw [if_neg this.1, if_neg this.2]
  | a :: b :: f => rfl
theorem pieces_cat {l : List Node} (h : ∀ n ∈ l, Shape n) : pieces (catF l) = (l.map pieces).flatten := by
  rw [catF_mk h]
  refine pieces_mkC fun k hk => ?_
  obtain ⟨p, hp, hk⟩ := List.mem_flatten.1 hk
  obtain ⟨n, hn, rfl⟩ := List.mem_map.1 hp
  exact pieces_kind (h n hn) hk
theorem cat_one {n : Node} (h : NormE n) : catF [n] = n := by
  by_cases h5 : n.kind = 5
  · have hs := h.shape
    cases hs with
    | alt => rfl
    | _ => simp [Node.kind] at h5
  · have h1 := cat_pieces h.shape h5
    rw [catF_mk (by intro k hk; have : k = n := by simpa using hk
                    rw [this]; exact h.shape)]
    rw [← h1, catF_mk (fun k hk => ?_)]
    · simp only [List.map_cons, List.map_nil, List.flatten_cons, List.flatten_nil, List.append_nil]
      rw [pieces_mkC]
      intro k hk
      obtain ⟨p, hp, hk⟩ := List.mem_flatten.1 hk
      obtain ⟨q, hq, rfl⟩ := List.mem_map.1 hp
      have hs := h.shape
      exact pieces_kind (by
        unfold pieces at hq
        split at hq
        · cases hq
        · split at hq
          · exact (h.kid hq).shape
          · have : q = n := by simpa using hq
            rw [this]; exact hs) hk
    · unfold pieces at hk
      split at hk
      · cases hk
      · split at hk
        · exact (h.kid hk).shape
        · have : k = n := by simpa using hk
          rw [this]; exact h.shape
theorem cat_assoc {a b c : Node} (ha : NormE a) (hb : NormE b) (hc : NormE c) : catF [a, catF [b, c]] = catF [catF [a, b], c] := by
  have two : ∀ {x y : Node}, NormE x → NormE y → ∀ n ∈ [x, y], NormE n := fun hx hy n hn => by
    rcases List.mem_cons.1 hn with rfl | hn
    · exact hx
    · rw [List.mem_singleton.1 hn]; exact hy
  have hbc := cat_norm (two hb hc)
  have hab := cat_norm (two ha hb)
  rw [catF_mk fun n hn => (two ha hbc n hn).shape, catF_mk fun n hn => (two hab hc n hn).shape]
  simp only [List.map_cons, List.map_nil, List.flatten_cons, List.flatten_nil, List.append_nil]
  rw [pieces_cat fun n hn => (two hb hc n hn).shape, pieces_cat fun n hn => (two ha hb n hn).shape]
  simp only [List.map_cons, List.map_nil, List.flatten_cons, List.flatten_nil, List.append_nil, List.append_assoc]
theorem brk_q {p u : List UInt8} : quant ((brk p ++ u).headD 0) = false := (brk_hd p u).2.2.2
theorem rdA_brk {a : List UInt8} {n : Node} (h : rdA a = some (n, [])) : rdA (brk a) = some (n, []) := by
  have := rdO_grp h (A := []) (O := []) (u := []) rfl
  rw [List.append_nil] at this
  rw [rdA_eq, this, rdO_end (.inl rfl)]
  show some (catF [n], []) = _
  rw [cat_one (rdA_norm _ _ _ h)]
theorem rdA_two {a b : List UInt8} {x y : Node} (ha : rdA a = some (x, [])) (hb : rdA b = some (y, [])) : rdA (brk a ++ brk b) = some (catF [x, y], []) := by
  have h1 := rdO_grp ha (A := []) (O := []) (u := brk b) (by have := brk_q (p := b) (u := []); rw [List.append_nil] at this; exact this)
  have h2 := rdO_grp hb (A := []) (O := [x]) (u := []) rfl
  rw [List.append_nil] at h2
  rw [rdA_eq, h1]
  show (match rdO [] [x] (brk b) with | none => none | some (A, O, t') => some (endF (A ++ [catF O]), t')) = _
  rw [h2, rdO_end (.inl rfl)]
  rfl
theorem rdA_or {a b : List UInt8} {x y : Node} (ha : rdA a = some (x, [])) (hb : rdA b = some (y, [])) : rdA (brk a ++ 124 :: brk b) = some (endF [x, y], []) := by
  have h1 := rdO_grp ha (A := []) (O := []) (u := 124 :: brk b) (show quant 124 = false by decide)
  have h2 := rdO_grp hb (A := [x]) (O := []) (u := []) rfl
  rw [List.append_nil] at h2
  rw [rdA_eq, h1, rdO_bar]
  show (match rdO [catF [x]] [] (brk b) with | none => none | some (A, O, t') => some (endF (A ++ [catF O]), t')) = _
  rw [cat_one (rdA_norm _ _ _ ha), h2, rdO_end (.inl rfl)]
  show some (endF ([x] ++ [catF [y]]), []) = _
  rw [cat_one (rdA_norm _ _ _ hb)]
  rfl
theorem rdA_or' {a c : List UInt8} {x z : Node} (ha : rdA a = some (x, [])) (hc : rdA c = some (z, [])) : ∃ L, rdA (brk a ++ 124 :: c) = some (endF (x :: L), []) ∧ endF L = z ∧ L ≠ [] := by
  have h1 := rdO_grp ha (A := []) (O := []) (u := 124 :: c) (show quant 124 = false by decide)
  rw [rdA_eq] at hc
  cases hm : rdO [] [] c with
  | none => rw [hm] at hc; cases hc
  | some w =>
    obtain ⟨A, O, t⟩ := w
    rw [hm] at hc
    cases hc
    have h2 := rdO_pre (c.length + 1) [x] [] [] c A O [] (by omega) hm
    refine ⟨A ++ [catF O], ?_, rfl, by simp⟩
    rw [rdA_eq, h1, rdO_bar]
    show (match rdO [catF [x]] [] c with | none => none | some (A, O, t') => some (endF (A ++ [catF O]), t')) = _
    rw [cat_one (rdA_norm _ _ _ ha)]
    rw [List.append_nil] at h2
    rw [h2]
    dsimp only
    rw [List.append_assoc]
    rfl
def fl5 (n : Node) : List Node := if n.kind = 5 then n.kids else [n]
theorem flatF_cons {n : Node} {l : List Node} : flatF 5 (n :: l) = fl5 n ++ flatF 5 l := rfl
theorem fl5_end {L : List Node} (hL : L ≠ []) : flatF 5 L = fl5 (endF L) := by
  match L, hL with
  | [n], _ => exact List.append_nil _
  | a :: b :: L, _ => rfl
theorem alt_assoc {x y z : Node} {L : List Node} (hL : L ≠ []) (hz : endF L = z) : endF [x, endF [y, z]] = endF (endF [x, y] :: L) := by
  have h2 : 2 ≤ (endF [x, y] :: L).length := by
    cases L with
    | nil => exact absurd rfl hL
    | cons a L => simp
  rw [endF_2 (l := [x, endF [y, z]]) (by simp), endF_2 h2, flatF_cons, flatF_cons, flatF_cons, ← fl5_end (L := [y, z]) (by simp), ← fl5_end (L := [x, y]) (by simp), fl5_end hL, hz]
  simp only [flatF_cons, List.append_assoc]
  simp [flatF]
/-- what Parse tells of a text that is one -/
def resN (n : Node) : Node := if n.size ≤ 200 then n else .empty
def resE (n : Node) : Int := if n.size ≤ 200 then 0 else 4
theorem parse_res {t : List UInt8} {n : Node} (h : rdA t = some (n, [])) (hl : t.length ≤ 256) : parseM t = (resN n, t.length, resE n) := by
  obtain ⟨h1, h2, _⟩ := parse_L hl
  unfold resN resE
  by_cases hz : n.size ≤ 200
  · rw [if_pos hz, if_pos hz]; exact h1 n h hz
  · rw [if_neg hz, if_neg hz]; exact h2 n h (by omega)
theorem forms_ps {m : Int} {t : List UInt8} {n : Node} (h : rdA t = some (n, [])) (hl : t.length ≤ 256) : ∃ ks, evI (cfg m) 0 18 [.str t] [] = some (.tup [nAV (resN n) ks, .int .i64 (t.length : Int), .int .i64 (resE n)], []) ∧ KidsR (resN n).kids ks ∧ Dep 772 (resN n) ∧ (resN n).lw < 100000 := by
  obtain ⟨ks, a1, a2⟩ := parse_ok (m := m) (fl := 0) (hp := []) (s := t) (by omega) rfl
  have hp := parse_res h hl
  rw [hp] at a1 a2
  refine ⟨ks, a1, a2, ?_⟩
  rcases parse_tells t with ⟨n', h1, h2, h3, h4, h5, _⟩ | ⟨q, e, h1, h2, h3⟩
  · rw [hp] at h1
    injection h1 with h1 _
    rw [h1]
    exact ⟨h3.dep, by omega⟩
  · rw [hp] at h1
    injection h1 with h1 _
    rw [h1]
    exact ⟨dep1 (n := .empty) rfl |>.mono (by omega), by rw [Node.lw_eq]; simp [Node.empty, Node.kids, lws]⟩
theorem forms_law {m : Int} {x y z : AV} {bx bY bz : List UInt8} (hex : evI (cfg m) 0 10 [] [] = some (.bool true, [])) (hx : IsSl 1 x (bsV bx)) (hy : IsSl 1 y (bsV bY)) (hz : IsSl 1 z (bsV bz)) : evI (cfg m) 0 8 [x, y, z] [] = some (.bool true, []) := by
  have xa := rexes_ok (m := m) (fl := 0) (hp := []) hx
  have xb := rexes_ok (m := m) (fl := 0) (hp := []) hy
  have xc := rexes_ok (m := m) (fl := 0) (hp := []) hz
  have la := rexes_len bx
  have lb := rexes_len bY
  have lc := rexes_len bz
  generalize rexesF bx = a at *
  generalize rexesF bY = b at *
  generalize rexesF bz = c at *
  obtain ⟨ka, a1, a2⟩ := parse_ok (m := m) (fl := 0) (hp := []) (s := a) (by omega) rfl
  obtain ⟨kb, b1, b2⟩ := parse_ok (m := m) (fl := 0) (hp := []) (s := b) (by omega) rfl
  obtain ⟨kc, c1, c2⟩ := parse_ok (m := m) (fl := 0) (hp := []) (s := c) (by omega) rfl
  rcases parse_tells a with ⟨na, ha1, _, ha3, ha4, ha5, ha6⟩ | ⟨q, e, h1, h2, _⟩
  · rw [ha1] at a1 a2
    rcases parse_tells b with ⟨nb, hb1, _, hb3, hb4, hb5, hb6⟩ | ⟨q, e, h1, h2, _⟩
    · rw [hb1] at b1 b2
      rcases parse_tells c with ⟨nc, hc1, _, hc3, hc4, hc5, hc6⟩ | ⟨q, e, h1, h2, _⟩
      · rw [hc1] at c1 c2
        by_cases hl : 200 < (a.length : Int) + (b.length : Int) + (c.length : Int)
        · exact rf_4 (nq := .empty) (ns := .empty) (kp := .nilS) (kq := .nilS) (kr := .nilS) (ks := .nilS) (kt := .nilS) (pp := 0) (pq := 0) (pr := 0) (ps := 0) (pt := 0) (eq := 0) (es := 0) hex xa xb xc la lb lc a1 b1 c1 rfl rfl rfl hl
        · have t1 : [40, 40] ++ a ++ [41, 41] = brk (brk a) := by simp [brk]
          have t2 : [40] ++ a ++ [41, 40, 40] ++ b ++ [41, 40] ++ c ++ [41, 41] = brk a ++ brk (brk b ++ brk c) := by simp [brk]
          have t3 : [40, 40] ++ a ++ [41, 40] ++ b ++ [41, 41, 40] ++ c ++ [41] = brk (brk a ++ brk b) ++ brk c := by simp [brk]
          have t4 : [40] ++ a ++ [41, 124, 40, 40] ++ b ++ [41, 124, 40] ++ c ++ [41, 41] = brk a ++ 124 :: brk (brk b ++ 124 :: brk c) := by simp [brk]
          have t5 : [40, 40] ++ a ++ [41, 124, 40] ++ b ++ [41, 41, 124] ++ c = brk (brk a ++ 124 :: brk b) ++ 124 :: c := by simp [brk]
          have r1 := rdA_brk (rdA_brk ha6)
          have r2 := rdA_two ha6 (rdA_two hb6 hc6)
          have r3 := rdA_two (rdA_two ha6 hb6) hc6
          rw [← cat_assoc (rdA_norm _ _ _ ha6) (rdA_norm _ _ _ hb6) (rdA_norm _ _ _ hc6)] at r3
          have r4 := rdA_or ha6 (rdA_or hb6 hc6)
          obtain ⟨L, r5, hL1, hL2⟩ := rdA_or' (rdA_or ha6 hb6) hc6
          rw [← alt_assoc (y := nb) (z := nc) hL2 hL1] at r5
          obtain ⟨kp, p1, p2, p3, p4⟩ := forms_ps (m := m) r1 (by simp [brk]; omega)
          obtain ⟨kq, q1, q2, q3, q4⟩ := forms_ps (m := m) r2 (by simp [brk]; omega)
          obtain ⟨kr, w1, w2, w3, w4⟩ := forms_ps (m := m) r3 (by simp [brk]; omega)
          obtain ⟨ks, s1, s2, s3, s4⟩ := forms_ps (m := m) r4 (by simp [brk]; omega)
          obtain ⟨kt, v1, v2, v3, v4⟩ := forms_ps (m := m) r5 (by simp [brk]; omega)
          have en : resN na = na := if_pos ha5
          have ee : resE na = 0 := if_pos ha5
          rw [en] at p1 p2
          rw [ee] at p1
          rw [← t1] at p1
          rw [← t2] at q1
          rw [← t3] at w1
          rw [← t4] at s1
          rw [← t5] at v1
          exact rf_5 hex xa xb xc la lb lc a1 b1 c1 rfl rfl rfl hl p1 q1 w1 s1 v1 (same_ok _ ha3.dep a2 p2 (Nat.lt_of_le_of_lt ha4 (by omega))) (same_ok _ q3 q2 w2 q4) (same_ok _ s3 s2 v2 s4)
      · rw [h1] at c1
        exact rf_3 (nq := .empty) (ns := .empty) (kp := .nilS) (kq := .nilS) (kr := .nilS) (ks := .nilS) (kt := .nilS) (pp := 0) (pq := 0) (pr := 0) (ps := 0) (pt := 0) (eq := 0) (es := 0) hex xa xb xc la lb lc a1 b1 c1 rfl rfl h2
    · rw [h1] at b1
      exact rf_2 (nq := .empty) (ns := .empty) (kp := .nilS) (kq := .nilS) (kr := .nilS) (ks := .nilS) (kt := .nilS) (pp := 0) (pq := 0) (pr := 0) (ps := 0) (pt := 0) (eq := 0) (es := 0) hex xa xb xc la lb lc a1 b1 c1 rfl h2
  · rw [h1] at a1
    exact rf_1 (nq := .empty) (ns := .empty) (kp := .nilS) (kq := .nilS) (kr := .nilS) (ks := .nilS) (kt := .nilS) (pp := 0) (pq := 0) (pr := 0) (ps := 0) (pt := 0) (eq := 0) (es := 0) hex xa xb xc la lb lc a1 b1 c1 h2
theorem forms_all (x y z : AV) (hx : Sh (cfg 0) 6 32 x) (hy : Sh (cfg 0) 6 32 y) (hz : Sh (cfg 0) 6 32 z) : evI (cfg 0) 0 8 [x, y, z] [] = some (.bool true, []) := by
  obtain ⟨b1, h1⟩ := bytes_of hx
  obtain ⟨b2, h2⟩ := bytes_of hy
  obtain ⟨b3, h3⟩ := bytes_of hz
  exact forms_law ex0 h1 h2 h3
end Go.Proofs.YtanopbolgfcojaaDoor.E.S4
