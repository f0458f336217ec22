/- archivistlaw17.SplitBehind answers true at every input. -/
import Derived.Test.YtfhemdhgpcpfaaaEBehind
import Derived.Test.YtfhemdhgpcpfaaaEWholeLoop
import Derived.Test.YtfhemdhgpcpfaaaERng
set_option linter.unusedSimpArgs false
set_option linter.unusedVariables false
namespace Go.Proofs.Ytfhemdhgpcpfaaa.E.S1
open Go Go.Proofs E

def HC (asc : Bool) (t : Int) (l : List AV) (c i : Int) : St := ⟨slots 137 [(4, .bool asc), (11, .bool true), (15, .int .i64 t), (16, .lit 2 .sealed l), (18, .int .i64 c), (19, .int .i64 i)], []⟩
def HC' (asc : Bool) (t : Int) (l : List AV) (c : Int) : St := ⟨slots 137 [(4, .bool asc), (11, .bool true), (15, .int .i64 t), (16, .lit 2 .sealed l), (18, .int .i64 c)], []⟩
noncomputable abbrev LC (k : Nat) := loopN cfg (evCall cfg k 0) 0 5 k (bodyOf Try.f5 13) 13

theorem cnt_end (asc : Bool) (t : Int) (l : List AV) (c i : Int) (k m : Nat) (h : decide (i < (l.length : Int)) = false) : LC k (m + 1) (HC asc t l c i) = some (.exit 0, HC' asc t l c) :=
  loop_exit (π := [(13, 3, .val (.bool false))]) (φs := [some (AV.bool (decide (i < (l.length : Int)))) = some (.bool false)]) (by kernel_rfl) (fun h => by cases h) (by rw [h]; rfl)
theorem cnt_lo (asc : Bool) (t : Int) (l : List AV) (c i : Int) (p : Int × Int) (k m : Nat) (h : decide (i < (l.length : Int)) = true) (hi : indexAddr cfg 28 (.v (.lit 2 .sealed l)) i = some (.v (.rop (sp p)))) (h1 : decide (t ≥ p.1) = false) :
    LC k (m + 1) (HC asc t l c i) = LC k m (HC asc t l c (J (i + 1))) :=
  loop_step (π := [(13, 3, .val (.bool true)), (15, 3, .val (.rop (sp p))), (15, 6, .val (.bool false))])
    (φs := [some (AV.bool (decide (i < (l.length : Int)))) = some (.bool true), indexAddr cfg 28 (.v (.lit 2 .sealed l)) i = some (.v (.rop (sp p))), some (AV.bool (decide (t ≥ p.1))) = some (.bool false)])
    (by kernel_rfl) (by rw [h, h1]; exact ⟨rfl, hi, rfl⟩)
theorem cnt_hi (asc : Bool) (t : Int) (l : List AV) (c i : Int) (p : Int × Int) (k m : Nat) (h : decide (i < (l.length : Int)) = true) (hi : indexAddr cfg 28 (.v (.lit 2 .sealed l)) i = some (.v (.rop (sp p)))) (h1 : decide (t ≥ p.1) = true) (h2 : decide (t < p.2) = false) :
    LC k (m + 1) (HC asc t l c i) = LC k m (HC asc t l c (J (i + 1))) :=
  loop_step (π := [(13, 3, .val (.bool true)), (15, 3, .val (.rop (sp p))), (15, 6, .val (.bool true)), (15, 11, .val (.rop (sp p))), (15, 14, .val (.bool false))])
    (φs := [some (AV.bool (decide (i < (l.length : Int)))) = some (.bool true), indexAddr cfg 28 (.v (.lit 2 .sealed l)) i = some (.v (.rop (sp p))), some (AV.bool (decide (t ≥ p.1))) = some (.bool true), indexAddr cfg 28 (.v (.lit 2 .sealed l)) i = some (.v (.rop (sp p))), some (AV.bool (decide (t < p.2))) = some (.bool false)])
    (by kernel_rfl) (by rw [h, h1, h2]; exact ⟨rfl, hi, rfl, hi, rfl⟩)
theorem cnt_in (asc : Bool) (t : Int) (l : List AV) (c i : Int) (p : Int × Int) (k m : Nat) (h : decide (i < (l.length : Int)) = true) (hi : indexAddr cfg 28 (.v (.lit 2 .sealed l)) i = some (.v (.rop (sp p)))) (h1 : decide (t ≥ p.1) = true) (h2 : decide (t < p.2) = true) :
    LC k (m + 1) (HC asc t l c i) = LC k m (HC asc t l (J (c + 1)) (J (i + 1))) :=
  loop_step (π := [(13, 3, .val (.bool true)), (15, 3, .val (.rop (sp p))), (15, 6, .val (.bool true)), (15, 11, .val (.rop (sp p))), (15, 14, .val (.bool true))])
    (φs := [some (AV.bool (decide (i < (l.length : Int)))) = some (.bool true), indexAddr cfg 28 (.v (.lit 2 .sealed l)) i = some (.v (.rop (sp p))), some (AV.bool (decide (t ≥ p.1))) = some (.bool true), indexAddr cfg 28 (.v (.lit 2 .sealed l)) i = some (.v (.rop (sp p))), some (AV.bool (decide (t < p.2))) = some (.bool true)])
    (by kernel_rfl) (by rw [h, h1, h2]; exact ⟨rfl, hi, rfl, hi, rfl⟩)

def HE (t : Int) (l b : List AV) (i : Int) : St := ⟨slots 137 [(11, .bool true), (15, .int .i64 t), (16, .lit 2 .sealed l), (20, .lit 2 .sealed b), (21, .int .i64 i)], []⟩
def HE' (t : Int) (b : List AV) : St := ⟨slots 137 [(11, .bool true), (15, .int .i64 t), (20, .lit 2 .sealed b)], []⟩
noncomputable abbrev LE (k : Nat) := loopN cfg (evCall cfg k 0) 0 5 k (bodyOf Try.f5 21) 21
theorem cmp_end (t : Int) (l b : List AV) (i : Int) (k m : Nat) (h : decide (i < (b.length : Int)) = false) : LE k (m + 1) (HE t l b i) = some (.exit 2, HE' t b) :=
  loop_exit (π := [(21, 3, .val (.bool false))]) (φs := [some (AV.bool (decide (i < (b.length : Int)))) = some (.bool false)]) (by kernel_rfl) (fun h => by cases h) (by rw [h]; rfl)
theorem cmp_step (t : Int) (l b : List AV) (i : Int) (p q : Int × Int) (k m : Nat) (h : decide (i < (b.length : Int)) = true) (hp : indexAddr cfg 28 (.v (.lit 2 .sealed b)) i = some (.v (.rop (sp p))))
    (hq : indexAddr cfg 28 (.v (.lit 2 .sealed l)) (J (J ((l.length : Int) - b.length) + i)) = some (.v (.rop (sp q)))) (hn : binE cfg .neq 35 false (sp p) (sp q) = some (.bool false)) :
    LE k (m + 1) (HE t l b i) = LE k m (HE t l b (J (i + 1))) :=
  loop_step (π := [(21, 3, .val (.bool true)), (23, 2, .val (.rop (sp p))), (23, 12, .val (.rop (sp q))), (23, 14, .val (.bool false))])
    (φs := [some (AV.bool (decide (i < (b.length : Int)))) = some (.bool true), indexAddr cfg 28 (.v (.lit 2 .sealed b)) i = some (.v (.rop (sp p))), indexAddr cfg 28 (.v (.lit 2 .sealed l)) (J (J ((l.length : Int) - b.length) + i)) = some (.v (.rop (sp q))), binE cfg .neq 35 false (sp p) (sp q) = some (.bool false)])
    (by kernel_rfl) (by rw [h]; exact ⟨rfl, hp, hq, hn⟩)

abbrev WB (b : Int) : Int := J (J (b.tmod 50) + 1)
abbrev TB (a b c : Int) : Int := J (J a + J (WB b * J (1 + J (c.tmod 64))))
theorem beh_path (a b c d r : Int) (asc : Bool) (P Q : List AV) (p : Int × Int) (hex : evCall cfg 1000 0 8 [] [] = some (.bool true, []))
    (h0 : (bif J (TB a b c - J a) == 0 then none else some (AV.int .i64 ((J d).tmod (J (TB a b c - J a))))) = some (.int .i64 r))
    (h1 : evCall cfg 1000 0 11 [.int .i64 (J a), .int .i64 (TB a b c), .int .i64 (WB b), .bool asc] [] = some (.tup [.lit 2 .sealed P, .int .i64 0], []))
    (h2 : loopN cfg (evCall cfg 1000 0) 0 5 1000 (bodyOf Try.f5 13) 13 1000 (HC asc (J (J a + r)) P 0 0) = some (.exit 0, HC' asc (J (J a + r)) P 1))
    (h3 : evCall cfg 1000 0 13 [.bool asc, .int .i64 (J (J a + r)), .lit 2 .sealed P] [] = some (.lit 2 .sealed Q, []))
    (h4 : decide ((Q.length : Int) < 1) = false) (h5 : decide ((Q.length : Int) > (P.length : Int)) = false)
    (h6 : loopN cfg (evCall cfg 1000 0) 0 5 1000 (bodyOf Try.f5 21) 21 1000 (HE (J (J a + r)) P Q 0) = some (.exit 2, HE' (J (J a + r)) Q))
    (h7 : indexAddr cfg 28 (.v (.lit 2 .sealed Q)) 0 = some (.v (.rop (sp p)))) (h8 : decide (J (J a + r) ≥ p.1) = true) (h9 : decide (J (J a + r) < p.2) = true) :
    evCall cfg 1001 0 5 [.int .i32 a, .int .u8 b, .int .u8 c, .int .u16 d, .bool asc] [] = some (.bool true, []) :=
  evP (k := 1000) [(1, 0, .res (.bool true) []), (7, 6, .val (.int .i64 r)), (8, 4, .res (.tup [.lit 2 .sealed P, .int .i64 0]) []), (13, 1000000, .loop (.exit 0) (HC' asc (J (J a + r)) P 1)),
      (17, 3, .res (.lit 2 .sealed Q) []), (18, 5, .val (.bool false)), (18, 12, .val (.bool false)), (21, 1000000, .loop (.exit 2) (HE' (J (J a + r)) Q)),
      (25, 4, .val (.rop (sp p))), (25, 7, .val (.bool true)), (25, 12, .val (.rop (sp p))), (25, 15, .val (.bool true))]
    (φs := [evCall cfg 1000 0 8 [] [] = some (.bool true, []),
      (bif J (TB a b c - J a) == 0 then none else some (AV.int .i64 ((J d).tmod (J (TB a b c - J a))))) = some (.int .i64 r),
      evCall cfg 1000 0 11 [.int .i64 (J a), .int .i64 (TB a b c), .int .i64 (WB b), .bool asc] [] = some (.tup [.lit 2 .sealed P, .int .i64 0], []),
      loopN cfg (evCall cfg 1000 0) 0 5 1000 (bodyOf Try.f5 13) 13 1000 (HC asc (J (J a + r)) P 0 0) = some (.exit 0, HC' asc (J (J a + r)) P 1),
      evCall cfg 1000 0 13 [.bool asc, .int .i64 (J (J a + r)), .lit 2 .sealed P] [] = some (.lit 2 .sealed Q, []),
      some (AV.bool (decide ((Q.length : Int) < 1))) = some (.bool false), some (AV.bool (decide ((Q.length : Int) > (P.length : Int)))) = some (.bool false),
      loopN cfg (evCall cfg 1000 0) 0 5 1000 (bodyOf Try.f5 21) 21 1000 (HE (J (J a + r)) P Q 0) = some (.exit 2, HE' (J (J a + r)) Q),
      indexAddr cfg 28 (.v (.lit 2 .sealed Q)) 0 = some (.v (.rop (sp p))), some (AV.bool (decide (J (J a + r) ≥ p.1))) = some (.bool true),
      indexAddr cfg 28 (.v (.lit 2 .sealed Q)) 0 = some (.v (.rop (sp p))), some (AV.bool (decide (J (J a + r) < p.2))) = some (.bool true)])
    (by kernel_rfl) (by rw [h4, h5, h8, h9]; exact ⟨hex, h0, h1, h2, h3, rfl, rfl, h6, h7, rfl, h7, rfl⟩)
end Go.Proofs.Ytfhemdhgpcpfaaa.E.S1
