/- archivistlaw17.SplitTells: its ways. -/
import Derived.Test.YtfhemdhgpcpfaaaERefx
set_option linter.unusedSimpArgs false
set_option linter.unusedVariables false
namespace Go.Proofs.Ytfhemdhgpcpfaaa.E.S1
open Go Go.Proofs E
abbrev AN (a b : Int) : Int := IntKind.i64.wrap (BitVec.ofInt IntKind.i64.bits a &&& BitVec.ofInt IntKind.i64.bits b).toNat

noncomputable abbrev n3 : Nat := Try.f3.ntmps
noncomputable def HS (asc : Bool) (s : Int) (l : List AV) (i : Int) : St := ⟨slots n3 [(3, .bool asc), (5, .int .i64 s), (13, .bool true), (18, .lit 2 .sealed l), (20, .lit 2 .sealed l), (22, .int .i64 i)], []⟩
noncomputable def HS' (asc : Bool) (s : Int) (l : List AV) : St := ⟨slots n3 [(3, .bool asc), (5, .int .i64 s), (13, .bool true), (18, .lit 2 .sealed l), (20, .lit 2 .sealed l)], []⟩
noncomputable abbrev LS (k : Nat) := loopN cfg (evCall cfg k 0) 0 3 k (bodyOf Try.f3 24) 24
theorem one_end (asc : Bool) (s : Int) (l : List AV) (i : Int) (k m : Nat) (h : decide (i < (l.length : Int)) = false) : LS k (m + 1) (HS asc s l i) = some (.exit 1, HS' asc s l) :=
  loop_exit (π := [(24, 3, .val (.bool false))]) (φs := [some (AV.bool (decide (i < (l.length : Int)))) = some (.bool false)]) (by kernel_rfl) (fun h => by cases h) (by rw [h]; rfl)
theorem one_step (asc : Bool) (s : Int) (l : List AV) (i : Int) (p : Int × Int) (k m : Nat) (h : decide (i < (l.length : Int)) = true) (hi : indexAddr cfg 28 (.v (.lit 2 .sealed l)) i = some (.v (.rop (sp p)))) (hj : indexAddr cfg 31 (.v (.lit 2 .sealed l)) i = some (.v (.rop (sp p)))) :
    LS k (m + 1) (HS asc s l i) = LS k m (HS asc s l (J (i + 1))) :=
  loop_step (π := [(24, 3, .val (.bool true)), (26, 2, .val (.rop (sp p))), (26, 7, .val (.rop (sp p))), (26, 10, .val (.bool false)), (26, 14, .val (.rop (sp p))), (26, 19, .val (.rop (sp p))), (26, 22, .val (.bool false))])
    (φs := [some (AV.bool (decide (i < (l.length : Int)))) = some (.bool true), indexAddr cfg 28 (.v (.lit 2 .sealed l)) i = some (.v (.rop (sp p))), indexAddr cfg 31 (.v (.lit 2 .sealed l)) i = some (.v (.rop (sp p))), some (AV.bool (p.1 != p.1)) = some (.bool false),
      indexAddr cfg 28 (.v (.lit 2 .sealed l)) i = some (.v (.rop (sp p))), indexAddr cfg 31 (.v (.lit 2 .sealed l)) i = some (.v (.rop (sp p))), some (AV.bool (p.2 != p.2)) = some (.bool false)])
    (by kernel_rfl) (by rw [h]; simp only [bne_self_eq_false]; exact ⟨trivial, hi, hj, trivial, hi, hj, trivial⟩)

noncomputable def HT (l : List AV) (d : AV) (i : Int) : St := ⟨slots n3 [(13, .bool true), (23, .lit 2 .sealed l), (24, d), (25, .int .i64 i)], []⟩
noncomputable def HT' : St := ⟨slots n3 [(13, .bool true)], []⟩
noncomputable abbrev LT (k : Nat) := loopN cfg (evCall cfg k 0) 0 3 k (bodyOf Try.f3 33) 33
theorem two_end (l : List AV) (d : AV) (i : Int) (k m : Nat) (h : decide (i < (l.length : Int)) = false) : LT k (m + 1) (HT l d i) = some (.exit 3, HT') :=
  loop_exit (π := [(33, 3, .val (.bool false))]) (φs := [some (AV.bool (decide (i < (l.length : Int)))) = some (.bool false)]) (by kernel_rfl) (fun h => by cases h) (by rw [h]; rfl)
theorem two_step (l : List AV) (d : AV) (i : Int) (p : Int × Int) (k m : Nat) (h : decide (i < (l.length : Int)) = true) (hi : indexAddr cfg 28 (.v (.lit 2 .sealed l)) i = some (.v (.rop (sp p)))) (hj : indexAddr cfg 31 (.v d) i = some (.v (.rop (sp p)))) :
    LT k (m + 1) (HT l d i) = LT k m (HT l d (J (i + 1))) :=
  loop_step (π := [(33, 3, .val (.bool true)), (35, 2, .val (.rop (sp p))), (35, 7, .val (.rop (sp p))), (35, 10, .val (.bool false)), (35, 14, .val (.rop (sp p))), (35, 19, .val (.rop (sp p))), (35, 22, .val (.bool false))])
    (φs := [some (AV.bool (decide (i < (l.length : Int)))) = some (.bool true), indexAddr cfg 28 (.v (.lit 2 .sealed l)) i = some (.v (.rop (sp p))), indexAddr cfg 31 (.v d) i = some (.v (.rop (sp p))), some (AV.bool (p.1 != p.1)) = some (.bool false),
      indexAddr cfg 28 (.v (.lit 2 .sealed l)) i = some (.v (.rop (sp p))), indexAddr cfg 31 (.v d) i = some (.v (.rop (sp p))), some (AV.bool (p.2 != p.2)) = some (.bool false)])
    (by kernel_rfl) (by rw [h]; simp only [bne_self_eq_false]; exact ⟨trivial, hi, hj, trivial, hi, hj, trivial⟩)

theorem jinw {n : Int} (h : R64 n) : J n = n := wrap_in h
theorem one_loop (asc : Bool) (s : Int) (L : List (Int × Int)) (hL : L.length ≤ 64) (k : Nat) :
    ∀ (n i q : Nat), i + n = L.length → LS k (n + 1 + q) (HS asc s (L.map sp) i) = some (.exit 1, HS' asc s (L.map sp))
  | 0, i, q, hi => by
    rw [show 0 + 1 + q = q + 1 by omega, one_end _ _ _ _ _ _ (by simp; omega)]
  | n + 1, i, q, hi => by
    obtain ⟨p, hp⟩ : ∃ p, L[i]? = some p := ⟨L[i], List.getElem?_eq_getElem (by omega)⟩
    have hm : (L.map sp)[i]? = some (sp p) := by rw [List.getElem?_map, hp]; rfl
    have ei : J ((i : Int) + 1) = ((i + 1 : Nat) : Int) := by rw [jinw ⟨by omega, by omega⟩]; omega
    rw [show n + 1 + 1 + q = (n + 1 + q) + 1 by omega, one_step asc s _ _ p k _ (by simp; omega) (idx_lit hm) (idx_lit31 hm), ei]
    exact one_loop asc s L hL k n (i + 1) q (by omega)
theorem rowV_get {L : List (Int × Int)} {i : Nat} {p : Int × Int} (h : L[i]? = some p) : indexAddr cfg 31 (.v (rowV L)) (i : Int) = some (.v (.rop (sp p))) := by
  cases L with
  | nil => simp at h
  | cons q l => exact idx_lit31 (by rw [List.getElem?_map, h]; rfl)
theorem two_loop (L : List (Int × Int)) (hL : L.length ≤ 64) (k : Nat) :
    ∀ (n i q : Nat), i + n = L.length → LT k (n + 1 + q) (HT (L.map sp) (rowV L) i) = some (.exit 3, HT')
  | 0, i, q, hi => by
    rw [show 0 + 1 + q = q + 1 by omega, two_end _ _ _ _ _ (by simp; omega)]
  | n + 1, i, q, hi => by
    obtain ⟨p, hp⟩ : ∃ p, L[i]? = some p := ⟨L[i], List.getElem?_eq_getElem (by omega)⟩
    have hm : (L.map sp)[i]? = some (sp p) := by rw [List.getElem?_map, hp]; rfl
    have ei : J ((i : Int) + 1) = ((i + 1 : Nat) : Int) := by rw [jinw ⟨by omega, by omega⟩]; omega
    rw [show n + 1 + 1 + q = (n + 1 + q) + 1 by omega, two_step _ _ _ p k _ (by simp; omega) (idx_lit hm) (rowV_get hp), ei]
    exact two_loop L hL k n (i + 1) q (by omega)

/-- what is asked where the range is right -/
def Good (F T W S : Int) (asc : Bool) : Prop := ∃ (n : Int) (P Q : List AV) (D : AV),
  evCall cfg 1000 0 9 [.int .i64 F, .int .i64 T, .int .i64 W] [] = some (.tup [.int .i64 n, .int .i64 0], []) ∧
  evCall cfg 1000 0 10 [.int .i64 F, .int .i64 T, .int .i64 W] [] = some (.tup [.int .i64 n, .int .i64 0], []) ∧
  evCall cfg 1000 0 11 [.int .i64 F, .int .i64 T, .int .i64 W, .bool asc] [] = some (.tup [.lit 2 .sealed P, .int .i64 0], []) ∧
  evCall cfg 1000 0 12 [.int .i64 F, .int .i64 T, .int .i64 W, .bool asc] [] = some (.tup [.lit 2 .sealed P, .int .i64 0], []) ∧
  loopN cfg (evCall cfg 1000 0) 0 3 1000 (bodyOf Try.f3 24) 24 1000 (HS asc S P 0) = some (.exit 1, HS' asc S P) ∧
  evCall cfg 1000 0 13 [.bool asc, .int .i64 S, .lit 2 .sealed P] [] = some (.lit 2 .sealed Q, []) ∧
  evCall cfg 1000 0 14 [.bool asc, .int .i64 S, .lit 2 .sealed P] [] = some (D, []) ∧
  (∀ ts, builtinE cfg 0 false ⟨ts, []⟩ .len [31] [D] = some ⟨.v (.int .i64 (Q.length : Int)), ts, [], .z⟩) ∧
  loopN cfg (evCall cfg 1000 0) 0 3 1000 (bodyOf Try.f3 33) 33 1000 (HT Q D 0) = some (.exit 3, HT')
def Bad (F T W S : Int) (asc : Bool) : Prop :=
  evCall cfg 1000 0 9 [.int .i64 F, .int .i64 T, .int .i64 W] [] = some (.tup [.int .i64 0, .int .i64 3], []) ∧
  evCall cfg 1000 0 10 [.int .i64 F, .int .i64 T, .int .i64 W] [] = some (.tup [.int .i64 0, .int .i64 3], []) ∧
  evCall cfg 1000 0 11 [.int .i64 F, .int .i64 T, .int .i64 W, .bool asc] [] = some (.tup [.nilS, .int .i64 3], []) ∧
  evCall cfg 1000 0 12 [.int .i64 F, .int .i64 T, .int .i64 W, .bool asc] [] = some (.tup [.nilS, .int .i64 3], []) ∧
  evCall cfg 1000 0 13 [.bool asc, .int .i64 S, .nilS] [] = some (.nilS, []) ∧
  evCall cfg 1000 0 14 [.bool asc, .int .i64 S, .nilS] [] = some (.nilS, [])

noncomputable def HN0 (asc : Bool) (s : Int) : St := ⟨slots n3 [(3, .bool asc), (5, .int .i64 s), (13, .bool true), (18, .nilS), (20, .nilS), (22, .int .i64 0)], []⟩
noncomputable def HN (asc : Bool) (s : Int) : St := ⟨slots n3 [(3, .bool asc), (5, .int .i64 s), (13, .bool true), (18, .nilS), (20, .nilS)], []⟩
noncomputable def HM0 : St := ⟨slots n3 [(13, .bool true), (23, .nilS), (24, .nilS), (25, .int .i64 0)], []⟩
theorem nil_one (asc : Bool) (s : Int) (k m : Nat) : LS k (m + 1) (HN0 asc s) = some (.exit 1, HN asc s) :=
  loop_exit (π := []) (φs := []) (by kernel_rfl) (fun h => by cases h) trivial
theorem nil_two (k m : Nat) : LT k (m + 1) HM0 = some (.exit 3, HT') :=
  loop_exit (π := []) (φs := []) (by kernel_rfl) (fun h => by cases h) trivial

theorem bad_0 (a b w h s : Int) (asc : Bool) (hex : evCall cfg 1000 0 8 [] [] = some (.bool true, [])) (g1 : some (AV.bool (h.tmod 4 == 1)) = some (.bool false)) (g2 : some (AV.bool (h.tmod 4 == 2)) = some (.bool false)) (g3 : some (AV.bool (h.tmod 4 == 3)) = some (.bool false)) (hB : Bad a b w s asc) :
    evCall cfg 1001 0 3 [.int .i64 a, .int .i64 b, .int .i64 w, .bool asc, .int .u8 h, .int .i64 s] [] = some (.bool true, []) := by
  obtain ⟨b1, b2, b3, b4, b5, b6⟩ := hB
  exact evP (k := 1000) [(1, 0, .res (.bool true) []), (5, 0, .val (.bool false)), (10, 0, .val (.bool false)), (13, 0, .val (.bool false)), (17, 3, .res (.tup [.int .i64 0, .int .i64 3]) []), (18, 3, .res (.tup [.int .i64 0, .int .i64 3]) []), (19, 4, .res (.tup [.nilS, .int .i64 3]) []), (20, 4, .res (.tup [.nilS, .int .i64 3]) []), (28, 3, .res .nilS []), (29, 3, .res .nilS []), (24, 1000000, .loop (.exit 1) (HN asc s)), (33, 1000000, .loop (.exit 3) HT')]
    (φs := [evCall cfg 1000 0 8 [] [] = some (.bool true, []),
      some (AV.bool (h.tmod 4 == 1)) = some (.bool false),
      some (AV.bool (h.tmod 4 == 2)) = some (.bool false),
      some (AV.bool (h.tmod 4 == 3)) = some (.bool false),
      evCall cfg 1000 0 9 [.int .i64 a, .int .i64 b, .int .i64 w] [] = some (.tup [.int .i64 0, .int .i64 3], []),
      evCall cfg 1000 0 10 [.int .i64 a, .int .i64 b, .int .i64 w] [] = some (.tup [.int .i64 0, .int .i64 3], []),
      evCall cfg 1000 0 11 [.int .i64 a, .int .i64 b, .int .i64 w, .bool asc] [] = some (.tup [.nilS, .int .i64 3], []),
      evCall cfg 1000 0 12 [.int .i64 a, .int .i64 b, .int .i64 w, .bool asc] [] = some (.tup [.nilS, .int .i64 3], []),
      loopN cfg (evCall cfg 1000 0) 0 3 1000 (bodyOf Try.f3 24) 24 1000 (HN0 asc s) = some (.exit 1, HN asc s),
      evCall cfg 1000 0 13 [.bool asc, .int .i64 s, .nilS] [] = some (.nilS, []),
      evCall cfg 1000 0 14 [.bool asc, .int .i64 s, .nilS] [] = some (.nilS, []),
      loopN cfg (evCall cfg 1000 0) 0 3 1000 (bodyOf Try.f3 33) 33 1000 HM0 = some (.exit 3, HT')])
    (by kernel_rfl) ⟨hex, g1, g2, g3, b1, b2, b3, b4, nil_one asc s 1000 999, b5, b6, nil_two 1000 999⟩

theorem good_0 (a b w h s : Int) (asc : Bool) (hex : evCall cfg 1000 0 8 [] [] = some (.bool true, [])) (g1 : some (AV.bool (h.tmod 4 == 1)) = some (.bool false)) (g2 : some (AV.bool (h.tmod 4 == 2)) = some (.bool false)) (g3 : some (AV.bool (h.tmod 4 == 3)) = some (.bool false)) (hG : Good a b w s asc) :
    evCall cfg 1001 0 3 [.int .i64 a, .int .i64 b, .int .i64 w, .bool asc, .int .u8 h, .int .i64 s] [] = some (.bool true, []) := by
  obtain ⟨n, P, Q, D, c1, c2, c3, c4, c5, c6, c7, c8, c9⟩ := hG
  exact evP (k := 1000) [(1, 0, .res (.bool true) []), (5, 0, .val (.bool false)), (10, 0, .val (.bool false)), (13, 0, .val (.bool false)), (17, 3, .res (.tup [.int .i64 n, .int .i64 0]) []), (18, 3, .res (.tup [.int .i64 n, .int .i64 0]) []), (19, 4, .res (.tup [.lit 2 .sealed P, .int .i64 0]) []), (20, 4, .res (.tup [.lit 2 .sealed P, .int .i64 0]) []), (21, 2, .val (.bool false)), (21, 18, .val (.bool false)), (24, 1000000, .loop (.exit 1) (HS' asc s P)), (28, 3, .res (.lit 2 .sealed Q) []), (29, 3, .res D []), (30, 3, .mem (.int .i64 (Q.length : Int)) [] .z), (30, 4, .val (.bool false)), (33, 1000000, .loop (.exit 3) HT')]
    (φs := [evCall cfg 1000 0 8 [] [] = some (.bool true, []),
      some (AV.bool (h.tmod 4 == 1)) = some (.bool false),
      some (AV.bool (h.tmod 4 == 2)) = some (.bool false),
      some (AV.bool (h.tmod 4 == 3)) = some (.bool false),
      evCall cfg 1000 0 9 [.int .i64 a, .int .i64 b, .int .i64 w] [] = some (.tup [.int .i64 n, .int .i64 0], []),
      evCall cfg 1000 0 10 [.int .i64 a, .int .i64 b, .int .i64 w] [] = some (.tup [.int .i64 n, .int .i64 0], []),
      evCall cfg 1000 0 11 [.int .i64 a, .int .i64 b, .int .i64 w, .bool asc] [] = some (.tup [.lit 2 .sealed P, .int .i64 0], []),
      evCall cfg 1000 0 12 [.int .i64 a, .int .i64 b, .int .i64 w, .bool asc] [] = some (.tup [.lit 2 .sealed P, .int .i64 0], []),
      some (AV.bool (n != n)) = some (.bool false),
      some (AV.bool ((P.length : Int) != (P.length : Int))) = some (.bool false),
      loopN cfg (evCall cfg 1000 0) 0 3 1000 (bodyOf Try.f3 24) 24 1000 (HS asc s P 0) = some (.exit 1, HS' asc s P),
      evCall cfg 1000 0 13 [.bool asc, .int .i64 s, .lit 2 .sealed P] [] = some (.lit 2 .sealed Q, []),
      evCall cfg 1000 0 14 [.bool asc, .int .i64 s, .lit 2 .sealed P] [] = some (D, []),
      ∀ ts, builtinE cfg 0 false ⟨ts, []⟩ .len [31] [D] = some ⟨.v (.int .i64 (Q.length : Int)), ts, [], .z⟩,
      some (AV.bool ((Q.length : Int) != (Q.length : Int))) = some (.bool false),
      loopN cfg (evCall cfg 1000 0) 0 3 1000 (bodyOf Try.f3 33) 33 1000 (HT Q D 0) = some (.exit 3, HT')])
    (by kernel_rfl) (by simp only [bne_self_eq_false]; exact ⟨hex, g1, g2, g3, c1, c2, c3, c4, trivial, trivial, c5, c6, c7, c8, trivial, c9⟩)

theorem bad_1 (a b w h s : Int) (asc : Bool) (hex : evCall cfg 1000 0 8 [] [] = some (.bool true, [])) (g1 : some (AV.bool (h.tmod 4 == 1)) = some (.bool true)) (hB : Bad (a.tmod 50) (b.tmod 50) (w.tmod 20) (s.tmod 60) asc) :
    evCall cfg 1001 0 3 [.int .i64 a, .int .i64 b, .int .i64 w, .bool asc, .int .u8 h, .int .i64 s] [] = some (.bool true, []) := by
  obtain ⟨b1, b2, b3, b4, b5, b6⟩ := hB
  exact evP (k := 1000) [(1, 0, .res (.bool true) []), (5, 0, .val (.bool true)), (17, 3, .res (.tup [.int .i64 0, .int .i64 3]) []), (18, 3, .res (.tup [.int .i64 0, .int .i64 3]) []), (19, 4, .res (.tup [.nilS, .int .i64 3]) []), (20, 4, .res (.tup [.nilS, .int .i64 3]) []), (28, 3, .res .nilS []), (29, 3, .res .nilS []), (24, 1000000, .loop (.exit 1) (HN asc (s.tmod 60))), (33, 1000000, .loop (.exit 3) HT')]
    (φs := [evCall cfg 1000 0 8 [] [] = some (.bool true, []),
      some (AV.bool (h.tmod 4 == 1)) = some (.bool true),
      evCall cfg 1000 0 9 [.int .i64 (a.tmod 50), .int .i64 (b.tmod 50), .int .i64 (w.tmod 20)] [] = some (.tup [.int .i64 0, .int .i64 3], []),
      evCall cfg 1000 0 10 [.int .i64 (a.tmod 50), .int .i64 (b.tmod 50), .int .i64 (w.tmod 20)] [] = some (.tup [.int .i64 0, .int .i64 3], []),
      evCall cfg 1000 0 11 [.int .i64 (a.tmod 50), .int .i64 (b.tmod 50), .int .i64 (w.tmod 20), .bool asc] [] = some (.tup [.nilS, .int .i64 3], []),
      evCall cfg 1000 0 12 [.int .i64 (a.tmod 50), .int .i64 (b.tmod 50), .int .i64 (w.tmod 20), .bool asc] [] = some (.tup [.nilS, .int .i64 3], []),
      loopN cfg (evCall cfg 1000 0) 0 3 1000 (bodyOf Try.f3 24) 24 1000 (HN0 asc (s.tmod 60)) = some (.exit 1, HN asc (s.tmod 60)),
      evCall cfg 1000 0 13 [.bool asc, .int .i64 (s.tmod 60), .nilS] [] = some (.nilS, []),
      evCall cfg 1000 0 14 [.bool asc, .int .i64 (s.tmod 60), .nilS] [] = some (.nilS, []),
      loopN cfg (evCall cfg 1000 0) 0 3 1000 (bodyOf Try.f3 33) 33 1000 HM0 = some (.exit 3, HT')])
    (by kernel_rfl) ⟨hex, g1, b1, b2, b3, b4, nil_one asc (s.tmod 60) 1000 999, b5, b6, nil_two 1000 999⟩

theorem good_1 (a b w h s : Int) (asc : Bool) (hex : evCall cfg 1000 0 8 [] [] = some (.bool true, [])) (g1 : some (AV.bool (h.tmod 4 == 1)) = some (.bool true)) (hG : Good (a.tmod 50) (b.tmod 50) (w.tmod 20) (s.tmod 60) asc) :
    evCall cfg 1001 0 3 [.int .i64 a, .int .i64 b, .int .i64 w, .bool asc, .int .u8 h, .int .i64 s] [] = some (.bool true, []) := by
  obtain ⟨n, P, Q, D, c1, c2, c3, c4, c5, c6, c7, c8, c9⟩ := hG
  exact evP (k := 1000) [(1, 0, .res (.bool true) []), (5, 0, .val (.bool true)), (17, 3, .res (.tup [.int .i64 n, .int .i64 0]) []), (18, 3, .res (.tup [.int .i64 n, .int .i64 0]) []), (19, 4, .res (.tup [.lit 2 .sealed P, .int .i64 0]) []), (20, 4, .res (.tup [.lit 2 .sealed P, .int .i64 0]) []), (21, 2, .val (.bool false)), (21, 18, .val (.bool false)), (24, 1000000, .loop (.exit 1) (HS' asc (s.tmod 60) P)), (28, 3, .res (.lit 2 .sealed Q) []), (29, 3, .res D []), (30, 3, .mem (.int .i64 (Q.length : Int)) [] .z), (30, 4, .val (.bool false)), (33, 1000000, .loop (.exit 3) HT')]
    (φs := [evCall cfg 1000 0 8 [] [] = some (.bool true, []),
      some (AV.bool (h.tmod 4 == 1)) = some (.bool true),
      evCall cfg 1000 0 9 [.int .i64 (a.tmod 50), .int .i64 (b.tmod 50), .int .i64 (w.tmod 20)] [] = some (.tup [.int .i64 n, .int .i64 0], []),
      evCall cfg 1000 0 10 [.int .i64 (a.tmod 50), .int .i64 (b.tmod 50), .int .i64 (w.tmod 20)] [] = some (.tup [.int .i64 n, .int .i64 0], []),
      evCall cfg 1000 0 11 [.int .i64 (a.tmod 50), .int .i64 (b.tmod 50), .int .i64 (w.tmod 20), .bool asc] [] = some (.tup [.lit 2 .sealed P, .int .i64 0], []),
      evCall cfg 1000 0 12 [.int .i64 (a.tmod 50), .int .i64 (b.tmod 50), .int .i64 (w.tmod 20), .bool asc] [] = some (.tup [.lit 2 .sealed P, .int .i64 0], []),
      some (AV.bool (n != n)) = some (.bool false),
      some (AV.bool ((P.length : Int) != (P.length : Int))) = some (.bool false),
      loopN cfg (evCall cfg 1000 0) 0 3 1000 (bodyOf Try.f3 24) 24 1000 (HS asc (s.tmod 60) P 0) = some (.exit 1, HS' asc (s.tmod 60) P),
      evCall cfg 1000 0 13 [.bool asc, .int .i64 (s.tmod 60), .lit 2 .sealed P] [] = some (.lit 2 .sealed Q, []),
      evCall cfg 1000 0 14 [.bool asc, .int .i64 (s.tmod 60), .lit 2 .sealed P] [] = some (D, []),
      ∀ ts, builtinE cfg 0 false ⟨ts, []⟩ .len [31] [D] = some ⟨.v (.int .i64 (Q.length : Int)), ts, [], .z⟩,
      some (AV.bool ((Q.length : Int) != (Q.length : Int))) = some (.bool false),
      loopN cfg (evCall cfg 1000 0) 0 3 1000 (bodyOf Try.f3 33) 33 1000 (HT Q D 0) = some (.exit 3, HT')])
    (by kernel_rfl) (by simp only [bne_self_eq_false]; exact ⟨hex, g1, c1, c2, c3, c4, trivial, trivial, c5, c6, c7, c8, trivial, c9⟩)

theorem bad_2 (a b w h s : Int) (asc : Bool) (hex : evCall cfg 1000 0 8 [] [] = some (.bool true, [])) (g1 : some (AV.bool (h.tmod 4 == 1)) = some (.bool false)) (g2 : some (AV.bool (h.tmod 4 == 2)) = some (.bool true)) (hB : Bad (J (-9223372036854775808 + AN a 255)) (J (9223372036854775807 - AN b 255)) w s asc) :
    evCall cfg 1001 0 3 [.int .i64 a, .int .i64 b, .int .i64 w, .bool asc, .int .u8 h, .int .i64 s] [] = some (.bool true, []) := by
  obtain ⟨b1, b2, b3, b4, b5, b6⟩ := hB
  exact evP (k := 1000) [(1, 0, .res (.bool true) []), (5, 0, .val (.bool false)), (10, 0, .val (.bool true)), (17, 3, .res (.tup [.int .i64 0, .int .i64 3]) []), (18, 3, .res (.tup [.int .i64 0, .int .i64 3]) []), (19, 4, .res (.tup [.nilS, .int .i64 3]) []), (20, 4, .res (.tup [.nilS, .int .i64 3]) []), (28, 3, .res .nilS []), (29, 3, .res .nilS []), (24, 1000000, .loop (.exit 1) (HN asc s)), (33, 1000000, .loop (.exit 3) HT')]
    (φs := [evCall cfg 1000 0 8 [] [] = some (.bool true, []),
      some (AV.bool (h.tmod 4 == 1)) = some (.bool false),
      some (AV.bool (h.tmod 4 == 2)) = some (.bool true),
      evCall cfg 1000 0 9 [.int .i64 (J (-9223372036854775808 + AN a 255)), .int .i64 (J (9223372036854775807 - AN b 255)), .int .i64 w] [] = some (.tup [.int .i64 0, .int .i64 3], []),
      evCall cfg 1000 0 10 [.int .i64 (J (-9223372036854775808 + AN a 255)), .int .i64 (J (9223372036854775807 - AN b 255)), .int .i64 w] [] = some (.tup [.int .i64 0, .int .i64 3], []),
      evCall cfg 1000 0 11 [.int .i64 (J (-9223372036854775808 + AN a 255)), .int .i64 (J (9223372036854775807 - AN b 255)), .int .i64 w, .bool asc] [] = some (.tup [.nilS, .int .i64 3], []),
      evCall cfg 1000 0 12 [.int .i64 (J (-9223372036854775808 + AN a 255)), .int .i64 (J (9223372036854775807 - AN b 255)), .int .i64 w, .bool asc] [] = some (.tup [.nilS, .int .i64 3], []),
      loopN cfg (evCall cfg 1000 0) 0 3 1000 (bodyOf Try.f3 24) 24 1000 (HN0 asc s) = some (.exit 1, HN asc s),
      evCall cfg 1000 0 13 [.bool asc, .int .i64 s, .nilS] [] = some (.nilS, []),
      evCall cfg 1000 0 14 [.bool asc, .int .i64 s, .nilS] [] = some (.nilS, []),
      loopN cfg (evCall cfg 1000 0) 0 3 1000 (bodyOf Try.f3 33) 33 1000 HM0 = some (.exit 3, HT')])
    (by kernel_rfl) ⟨hex, g1, g2, b1, b2, b3, b4, nil_one asc s 1000 999, b5, b6, nil_two 1000 999⟩

theorem good_2 (a b w h s : Int) (asc : Bool) (hex : evCall cfg 1000 0 8 [] [] = some (.bool true, [])) (g1 : some (AV.bool (h.tmod 4 == 1)) = some (.bool false)) (g2 : some (AV.bool (h.tmod 4 == 2)) = some (.bool true)) (hG : Good (J (-9223372036854775808 + AN a 255)) (J (9223372036854775807 - AN b 255)) w s asc) :
    evCall cfg 1001 0 3 [.int .i64 a, .int .i64 b, .int .i64 w, .bool asc, .int .u8 h, .int .i64 s] [] = some (.bool true, []) := by
  obtain ⟨n, P, Q, D, c1, c2, c3, c4, c5, c6, c7, c8, c9⟩ := hG
  exact evP (k := 1000) [(1, 0, .res (.bool true) []), (5, 0, .val (.bool false)), (10, 0, .val (.bool true)), (17, 3, .res (.tup [.int .i64 n, .int .i64 0]) []), (18, 3, .res (.tup [.int .i64 n, .int .i64 0]) []), (19, 4, .res (.tup [.lit 2 .sealed P, .int .i64 0]) []), (20, 4, .res (.tup [.lit 2 .sealed P, .int .i64 0]) []), (21, 2, .val (.bool false)), (21, 18, .val (.bool false)), (24, 1000000, .loop (.exit 1) (HS' asc s P)), (28, 3, .res (.lit 2 .sealed Q) []), (29, 3, .res D []), (30, 3, .mem (.int .i64 (Q.length : Int)) [] .z), (30, 4, .val (.bool false)), (33, 1000000, .loop (.exit 3) HT')]
    (φs := [evCall cfg 1000 0 8 [] [] = some (.bool true, []),
      some (AV.bool (h.tmod 4 == 1)) = some (.bool false),
      some (AV.bool (h.tmod 4 == 2)) = some (.bool true),
      evCall cfg 1000 0 9 [.int .i64 (J (-9223372036854775808 + AN a 255)), .int .i64 (J (9223372036854775807 - AN b 255)), .int .i64 w] [] = some (.tup [.int .i64 n, .int .i64 0], []),
      evCall cfg 1000 0 10 [.int .i64 (J (-9223372036854775808 + AN a 255)), .int .i64 (J (9223372036854775807 - AN b 255)), .int .i64 w] [] = some (.tup [.int .i64 n, .int .i64 0], []),
      evCall cfg 1000 0 11 [.int .i64 (J (-9223372036854775808 + AN a 255)), .int .i64 (J (9223372036854775807 - AN b 255)), .int .i64 w, .bool asc] [] = some (.tup [.lit 2 .sealed P, .int .i64 0], []),
      evCall cfg 1000 0 12 [.int .i64 (J (-9223372036854775808 + AN a 255)), .int .i64 (J (9223372036854775807 - AN b 255)), .int .i64 w, .bool asc] [] = some (.tup [.lit 2 .sealed P, .int .i64 0], []),
      some (AV.bool (n != n)) = some (.bool false),
      some (AV.bool ((P.length : Int) != (P.length : Int))) = some (.bool false),
      loopN cfg (evCall cfg 1000 0) 0 3 1000 (bodyOf Try.f3 24) 24 1000 (HS asc s P 0) = some (.exit 1, HS' asc s P),
      evCall cfg 1000 0 13 [.bool asc, .int .i64 s, .lit 2 .sealed P] [] = some (.lit 2 .sealed Q, []),
      evCall cfg 1000 0 14 [.bool asc, .int .i64 s, .lit 2 .sealed P] [] = some (D, []),
      ∀ ts, builtinE cfg 0 false ⟨ts, []⟩ .len [31] [D] = some ⟨.v (.int .i64 (Q.length : Int)), ts, [], .z⟩,
      some (AV.bool ((Q.length : Int) != (Q.length : Int))) = some (.bool false),
      loopN cfg (evCall cfg 1000 0) 0 3 1000 (bodyOf Try.f3 33) 33 1000 (HT Q D 0) = some (.exit 3, HT')])
    (by kernel_rfl) (by simp only [bne_self_eq_false]; exact ⟨hex, g1, g2, c1, c2, c3, c4, trivial, trivial, c5, c6, c7, c8, trivial, c9⟩)

theorem bad_3 (a b w h s : Int) (asc : Bool) (hex : evCall cfg 1000 0 8 [] [] = some (.bool true, [])) (g1 : some (AV.bool (h.tmod 4 == 1)) = some (.bool false)) (g2 : some (AV.bool (h.tmod 4 == 2)) = some (.bool false)) (g3 : some (AV.bool (h.tmod 4 == 3)) = some (.bool true)) (hB : Bad (J (J (9223372036854775807 - AN b 255) - AN a 1023)) (J (9223372036854775807 - AN b 255)) (AN w 63) s asc) :
    evCall cfg 1001 0 3 [.int .i64 a, .int .i64 b, .int .i64 w, .bool asc, .int .u8 h, .int .i64 s] [] = some (.bool true, []) := by
  obtain ⟨b1, b2, b3, b4, b5, b6⟩ := hB
  exact evP (k := 1000) [(1, 0, .res (.bool true) []), (5, 0, .val (.bool false)), (10, 0, .val (.bool false)), (13, 0, .val (.bool true)), (17, 3, .res (.tup [.int .i64 0, .int .i64 3]) []), (18, 3, .res (.tup [.int .i64 0, .int .i64 3]) []), (19, 4, .res (.tup [.nilS, .int .i64 3]) []), (20, 4, .res (.tup [.nilS, .int .i64 3]) []), (28, 3, .res .nilS []), (29, 3, .res .nilS []), (24, 1000000, .loop (.exit 1) (HN asc s)), (33, 1000000, .loop (.exit 3) HT')]
    (φs := [evCall cfg 1000 0 8 [] [] = some (.bool true, []),
      some (AV.bool (h.tmod 4 == 1)) = some (.bool false),
      some (AV.bool (h.tmod 4 == 2)) = some (.bool false),
      some (AV.bool (h.tmod 4 == 3)) = some (.bool true),
      evCall cfg 1000 0 9 [.int .i64 (J (J (9223372036854775807 - AN b 255) - AN a 1023)), .int .i64 (J (9223372036854775807 - AN b 255)), .int .i64 (AN w 63)] [] = some (.tup [.int .i64 0, .int .i64 3], []),
      evCall cfg 1000 0 10 [.int .i64 (J (J (9223372036854775807 - AN b 255) - AN a 1023)), .int .i64 (J (9223372036854775807 - AN b 255)), .int .i64 (AN w 63)] [] = some (.tup [.int .i64 0, .int .i64 3], []),
      evCall cfg 1000 0 11 [.int .i64 (J (J (9223372036854775807 - AN b 255) - AN a 1023)), .int .i64 (J (9223372036854775807 - AN b 255)), .int .i64 (AN w 63), .bool asc] [] = some (.tup [.nilS, .int .i64 3], []),
      evCall cfg 1000 0 12 [.int .i64 (J (J (9223372036854775807 - AN b 255) - AN a 1023)), .int .i64 (J (9223372036854775807 - AN b 255)), .int .i64 (AN w 63), .bool asc] [] = some (.tup [.nilS, .int .i64 3], []),
      loopN cfg (evCall cfg 1000 0) 0 3 1000 (bodyOf Try.f3 24) 24 1000 (HN0 asc s) = some (.exit 1, HN asc s),
      evCall cfg 1000 0 13 [.bool asc, .int .i64 s, .nilS] [] = some (.nilS, []),
      evCall cfg 1000 0 14 [.bool asc, .int .i64 s, .nilS] [] = some (.nilS, []),
      loopN cfg (evCall cfg 1000 0) 0 3 1000 (bodyOf Try.f3 33) 33 1000 HM0 = some (.exit 3, HT')])
    (by kernel_rfl) ⟨hex, g1, g2, g3, b1, b2, b3, b4, nil_one asc s 1000 999, b5, b6, nil_two 1000 999⟩

theorem good_3 (a b w h s : Int) (asc : Bool) (hex : evCall cfg 1000 0 8 [] [] = some (.bool true, [])) (g1 : some (AV.bool (h.tmod 4 == 1)) = some (.bool false)) (g2 : some (AV.bool (h.tmod 4 == 2)) = some (.bool false)) (g3 : some (AV.bool (h.tmod 4 == 3)) = some (.bool true)) (hG : Good (J (J (9223372036854775807 - AN b 255) - AN a 1023)) (J (9223372036854775807 - AN b 255)) (AN w 63) s asc) :
    evCall cfg 1001 0 3 [.int .i64 a, .int .i64 b, .int .i64 w, .bool asc, .int .u8 h, .int .i64 s] [] = some (.bool true, []) := by
  obtain ⟨n, P, Q, D, c1, c2, c3, c4, c5, c6, c7, c8, c9⟩ := hG
  exact evP (k := 1000) [(1, 0, .res (.bool true) []), (5, 0, .val (.bool false)), (10, 0, .val (.bool false)), (13, 0, .val (.bool true)), (17, 3, .res (.tup [.int .i64 n, .int .i64 0]) []), (18, 3, .res (.tup [.int .i64 n, .int .i64 0]) []), (19, 4, .res (.tup [.lit 2 .sealed P, .int .i64 0]) []), (20, 4, .res (.tup [.lit 2 .sealed P, .int .i64 0]) []), (21, 2, .val (.bool false)), (21, 18, .val (.bool false)), (24, 1000000, .loop (.exit 1) (HS' asc s P)), (28, 3, .res (.lit 2 .sealed Q) []), (29, 3, .res D []), (30, 3, .mem (.int .i64 (Q.length : Int)) [] .z), (30, 4, .val (.bool false)), (33, 1000000, .loop (.exit 3) HT')]
    (φs := [evCall cfg 1000 0 8 [] [] = some (.bool true, []),
      some (AV.bool (h.tmod 4 == 1)) = some (.bool false),
      some (AV.bool (h.tmod 4 == 2)) = some (.bool false),
      some (AV.bool (h.tmod 4 == 3)) = some (.bool true),
      evCall cfg 1000 0 9 [.int .i64 (J (J (9223372036854775807 - AN b 255) - AN a 1023)), .int .i64 (J (9223372036854775807 - AN b 255)), .int .i64 (AN w 63)] [] = some (.tup [.int .i64 n, .int .i64 0], []),
      evCall cfg 1000 0 10 [.int .i64 (J (J (9223372036854775807 - AN b 255) - AN a 1023)), .int .i64 (J (9223372036854775807 - AN b 255)), .int .i64 (AN w 63)] [] = some (.tup [.int .i64 n, .int .i64 0], []),
      evCall cfg 1000 0 11 [.int .i64 (J (J (9223372036854775807 - AN b 255) - AN a 1023)), .int .i64 (J (9223372036854775807 - AN b 255)), .int .i64 (AN w 63), .bool asc] [] = some (.tup [.lit 2 .sealed P, .int .i64 0], []),
      evCall cfg 1000 0 12 [.int .i64 (J (J (9223372036854775807 - AN b 255) - AN a 1023)), .int .i64 (J (9223372036854775807 - AN b 255)), .int .i64 (AN w 63), .bool asc] [] = some (.tup [.lit 2 .sealed P, .int .i64 0], []),
      some (AV.bool (n != n)) = some (.bool false),
      some (AV.bool ((P.length : Int) != (P.length : Int))) = some (.bool false),
      loopN cfg (evCall cfg 1000 0) 0 3 1000 (bodyOf Try.f3 24) 24 1000 (HS asc s P 0) = some (.exit 1, HS' asc s P),
      evCall cfg 1000 0 13 [.bool asc, .int .i64 s, .lit 2 .sealed P] [] = some (.lit 2 .sealed Q, []),
      evCall cfg 1000 0 14 [.bool asc, .int .i64 s, .lit 2 .sealed P] [] = some (D, []),
      ∀ ts, builtinE cfg 0 false ⟨ts, []⟩ .len [31] [D] = some ⟨.v (.int .i64 (Q.length : Int)), ts, [], .z⟩,
      some (AV.bool ((Q.length : Int) != (Q.length : Int))) = some (.bool false),
      loopN cfg (evCall cfg 1000 0) 0 3 1000 (bodyOf Try.f3 33) 33 1000 (HT Q D 0) = some (.exit 3, HT')])
    (by kernel_rfl) (by simp only [bne_self_eq_false]; exact ⟨hex, g1, g2, g3, c1, c2, c3, c4, trivial, trivial, c5, c6, c7, c8, trivial, c9⟩)

end Go.Proofs.Ytfhemdhgpcpfaaa.E.S1
