/- Steps of the seat's proofs: an evaluator of the program's code, its soundness, and what the functions come to. -/
import Derived.Test.YtanopbolgfcojaaDoorEag
set_option linter.unusedSimpArgs false
set_option linter.unusedVariables false
/- Nodes that may be: the walk. -/
namespace Go.Proofs.YtanopbolgfcojaaDoor.E.S4
open Go Go.Proofs E E.R
abbrev fnR : AV := .fn (.func 31) [] []
theorem r31 {m : Int} {fl : Nat} {n : Node} {ks : AV} {hp : List Blk} (hc : ∀ fl h, evI (cfg m) fl 20 [nAV n ks] h = some (.bool true, h)) : evI (cfg m) fl 31 [nAV n ks] hp = some (.bool false, hp) := by
  exact E.evX (AV.bool false) (hp) [.c 1 1 (hc (hp.length) (hp))] (by kernel_rfl) (E.tlP (by kernel_rfl) rfl (E.shutT (v := AV.bool false) (v' := AV.bool false) (by kernel_rfl))) rfl

abbrev rxSt (ks : AV) (N i : Nat) : List TV := [.v ks, .v fnR, J, J, J, J, J, .v (AI N), .v (AI i)] ++ List.replicate 10 J
theorem rx_n {m : Int} {fl N i : Nat} {hp : List Blk} {vs : List AV} {n : Node} {kn ks : AV} (hk : IsSl 8 ks vs) (hv : vs[i]? = some (nAV n kn)) (hi : i < N) (hN : N < 100000) (hc : ∀ fl h, evI (cfg m) fl 20 [nAV n kn] h = some (.bool true, h)) : LoopS (cfg m) fl 48 (bodyAt (cfg m) 48 2) 2 ⟨rxSt ks N i, hp⟩ ⟨rxSt ks N (i + 1), hp⟩ := by
  exact E.loopStepS (St.mk [TV.v ks, TV.v (AV.fn (Fn.func 31) [] []), J, J, J, J, J, TV.v (AI (↑N : Int)), TV.v (AI ((↑i : Int) + 1)), J, J, J, J, J, J, J, J, J, J] hp) [.b 2 0 (decide_eq_true ((show (↑i : Int) < (↑N : Int) from (by omega)))), .a 4 3 (E.indexAddr_sl (C := cfg m) (t := 34) (n := (↑i : Int)) hk (by kernel_rfl) (by omega) hv), .c 4 5 (E.S4.r31 (m := m) (fl := fl) (hp := hp) hc), .w 6 0 IntKind.i64 ((↑i : Int) + 1) (E.wrap_i64' (by omega))] (by kernel_rfl) rfl

theorem rx_x {m : Int} {fl N i : Nat} {hp : List Blk} {ks : AV} (hi : N ≤ i) : LoopI (cfg m) fl 48 (bodyAt (cfg m) 48 2) 2 ⟨rxSt ks N i, hp⟩ (.exit 0) ⟨List.replicate 19 J, hp⟩ := by
  exact E.loopEndC (.exit 0) (St.mk [J, J, J, J, J, J, J, J, J, J, J, J, J, J, J, J, J, J, J] hp) [.b 2 0 (decide_eq_false ((show ¬(↑i : Int) < (↑N : Int) from (by omega))))] (by kernel_rfl) (fun h => by cases h) rfl

theorem rx_ok {m : Int} {fl : Nat} {hp : List Blk} {ks : AV} {vs : List AV} (hk : IsSl 8 ks vs) (hN : vs.length < 100000) (hlp : LoopI (cfg m) hp.length 48 (bodyAt (cfg m) 48 2) 2 ⟨rxSt ks vs.length 0, hp⟩ (.exit 0) ⟨List.replicate 19 J, hp⟩) : evI (cfg m) fl 48 [ks, fnR] hp = some (.int .i64 (-1), hp) := by
  exact E.evX (AI (-1)) (hp) [.m 1 1 (E.len_sl (C := cfg m) (t := 34) (ts' := []) (fl := hp.length) (ar := false) (hp := hp) hk (by kernel_rfl)), .l 2 hlp] (by kernel_rfl) (E.tlP (by kernel_rfl) rfl (E.shutT (v := AI (-1)) (v' := AI (-1)) (by kernel_rfl))) rfl

theorem rc_ok {m : Int} {fl : Nat} {hp : List Blk} {ks : AV} (h : ∀ fl h, evI (cfg m) fl 48 [ks, fnR] h = some (.int .i64 (-1), h)) : evI (cfg m) fl 30 [ks, fnR] hp = some (.bool false, hp) := by
  exact E.evX (AV.bool false) (hp) [.c 1 2 (h (hp.length) (hp))] (by kernel_rfl) (E.tlP (by kernel_rfl) rfl (E.shutT (v := AV.bool false) (v' := AV.bool false) (by kernel_rfl))) rfl

theorem kd_ok {m : Int} {fl rb : Nat} {hp : List Blk} {n : Node} {ks : AV} {vs : List AV} {a b : Int} (hb : blkCells hp rb = some [AI n.kind, wAV n.set.a, wAV n.set.b, wAV n.set.c, wAV n.set.d, AI n.mn, AI n.mx, ks]) (hk : IsSl 8 ks vs) (h1 : a ≤ (vs.length : Int)) (h2 : (vs.length : Int) ≤ b) : evI (cfg m) fl 29 [.int .i64 a, .int .i64 b, .ptr rb 0] hp = some (.bool true, hp) := by
  exact E.evX (AV.bool true) (hp) [.m 1 1 (E.load_ok (C := cfg m) (t := 34) (off := 7) (x := ks) hb (by kernel_rfl)), .m 1 2 (E.len_sl (C := cfg m) (t := 34) (ts' := []) (fl := hp.length) (ar := false) (hp := hp) hk (by kernel_rfl)), .b 1 4 (decide_eq_true (h1)), .m 1 7 (E.load_ok (C := cfg m) (t := 34) (off := 7) (x := ks) hb (by kernel_rfl)), .m 1 8 (E.len_sl (C := cfg m) (t := 34) (ts' := []) (fl := hp.length) (ar := false) (hp := hp) hk (by kernel_rfl)), .b 1 10 (decide_eq_true (h2))] (by kernel_rfl) (E.tlP (by kernel_rfl) rfl (E.shutT (v := AV.bool true) (v' := AV.bool true) (by kernel_rfl))) rfl

theorem rt_0 {m : Int} {fl : Nat} {hp : List Blk} {n : Node} {ks : AV} {vs : List AV} (hk : IsSl 8 ks vs) (hr : ∀ fl h, evI (cfg m) fl 30 [ks, fnR] h = some (.bool false, h)) (k1 : n.kind = 0) (k2 : n.set = W4.zero) (k3 : n.mn = 0) (k4 : n.mx = 0) (k5 : vs.length = 0) : evI (cfg m) fl 20 [nAV n ks] hp = some (.bool true, hp) := by
  exact E.evX (AV.bool true) (hp ++ [BC [AI n.kind, AW (↑n.set.a.toNat : Int), AW (↑n.set.b.toNat : Int), AW (↑n.set.c.toNat : Int), AW (↑n.set.d.toNat : Int), AI n.mn, AI n.mx, ks]]) [.m 2 1 (E.load_ok (C := cfg m) (t := 34) (b := hp.length) (off := 7) (hp := hp ++ [BC [AI n.kind, AW (↑n.set.a.toNat : Int), AW (↑n.set.b.toNat : Int), AW (↑n.set.c.toNat : Int), AW (↑n.set.d.toNat : Int), AI n.mn, AI n.mx, ks]]) (cs := [AI n.kind, AW (↑n.set.a.toNat : Int), AW (↑n.set.b.toNat : Int), AW (↑n.set.c.toNat : Int), AW (↑n.set.d.toNat : Int), AI n.mn, AI n.mx, ks]) (x := ks) E.blk_last (by kernel_rfl)), .c 2 2 (hr (hp.length) (hp ++ [BC [AI n.kind, AW (↑n.set.a.toNat : Int), AW (↑n.set.b.toNat : Int), AW (↑n.set.c.toNat : Int), AW (↑n.set.d.toNat : Int), AI n.mn, AI n.mx, ks]])), .m 2 5 (E.load_ok (C := cfg m) (t := 3) (b := hp.length) (off := 0) (hp := hp ++ [BC [AI n.kind, AW (↑n.set.a.toNat : Int), AW (↑n.set.b.toNat : Int), AW (↑n.set.c.toNat : Int), AW (↑n.set.d.toNat : Int), AI n.mn, AI n.mx, ks]]) (cs := [AI n.kind, AW (↑n.set.a.toNat : Int), AW (↑n.set.b.toNat : Int), AW (↑n.set.c.toNat : Int), AW (↑n.set.d.toNat : Int), AI n.mn, AI n.mx, ks]) (x := AI n.kind) E.blk_last (by kernel_rfl)), .b 2 6 (beq_false_of_ne ((show ¬n.kind = 1 from (by omega)))), .m 2 8 (E.load_ok (C := cfg m) (t := 24) (b := hp.length) (off := 1) (hp := hp ++ [BC [AI n.kind, AW (↑n.set.a.toNat : Int), AW (↑n.set.b.toNat : Int), AW (↑n.set.c.toNat : Int), AW (↑n.set.d.toNat : Int), AI n.mn, AI n.mx, ks]]) (cs := [AI n.kind, AW (↑n.set.a.toNat : Int), AW (↑n.set.b.toNat : Int), AW (↑n.set.c.toNat : Int), AW (↑n.set.d.toNat : Int), AI n.mn, AI n.mx, ks]) (x := AV.agg [AW (↑n.set.a.toNat : Int), AW (↑n.set.b.toNat : Int), AW (↑n.set.c.toNat : Int), AW (↑n.set.d.toNat : Int)]) E.blk_last (by kernel_rfl)), .vb 2 10 (E.neW4z (C := cfg m) (t := 24) (cst := false) (s := n.set) (by kernel_rfl)) (congrArg not (decide_eq_true (k2))), .m 4 1 (E.load_ok (C := cfg m) (t := 3) (b := hp.length) (off := 5) (hp := hp ++ [BC [AI n.kind, AW (↑n.set.a.toNat : Int), AW (↑n.set.b.toNat : Int), AW (↑n.set.c.toNat : Int), AW (↑n.set.d.toNat : Int), AI n.mn, AI n.mx, ks]]) (cs := [AI n.kind, AW (↑n.set.a.toNat : Int), AW (↑n.set.b.toNat : Int), AW (↑n.set.c.toNat : Int), AW (↑n.set.d.toNat : Int), AI n.mn, AI n.mx, ks]) (x := AI n.mn) E.blk_last (by kernel_rfl)), .b 4 2 (beq_iff_eq.2 (k3)), .m 4 5 (E.load_ok (C := cfg m) (t := 3) (b := hp.length) (off := 6) (hp := hp ++ [BC [AI n.kind, AW (↑n.set.a.toNat : Int), AW (↑n.set.b.toNat : Int), AW (↑n.set.c.toNat : Int), AW (↑n.set.d.toNat : Int), AI n.mn, AI n.mx, ks]]) (cs := [AI n.kind, AW (↑n.set.a.toNat : Int), AW (↑n.set.b.toNat : Int), AW (↑n.set.c.toNat : Int), AW (↑n.set.d.toNat : Int), AI n.mn, AI n.mx, ks]) (x := AI n.mx) E.blk_last (by kernel_rfl)), .b 4 6 (beq_iff_eq.2 (k4)), .m 5 1 (E.load_ok (C := cfg m) (t := 3) (b := hp.length) (off := 0) (hp := hp ++ [BC [AI n.kind, AW (↑n.set.a.toNat : Int), AW (↑n.set.b.toNat : Int), AW (↑n.set.c.toNat : Int), AW (↑n.set.d.toNat : Int), AI n.mn, AI n.mx, ks]]) (cs := [AI n.kind, AW (↑n.set.a.toNat : Int), AW (↑n.set.b.toNat : Int), AW (↑n.set.c.toNat : Int), AW (↑n.set.d.toNat : Int), AI n.mn, AI n.mx, ks]) (x := AI n.kind) E.blk_last (by kernel_rfl)), .b 6 0 (beq_iff_eq.2 (k1)), .c 10 3 (E.S4.kd_ok (m := m) (fl := hp.length) (rb := hp.length) (hp := hp ++ [BC [AI n.kind, AW (↑n.set.a.toNat : Int), AW (↑n.set.b.toNat : Int), AW (↑n.set.c.toNat : Int), AW (↑n.set.d.toNat : Int), AI n.mn, AI n.mx, ks]]) (n := n) (a := 0) (b := 0) E.blk_last hk (by omega) (by omega))] (by kernel_rfl) (E.tlP (by kernel_rfl) rfl (E.shutT (v := AV.bool true) (v' := AV.bool true) (by kernel_rfl))) rfl

theorem rt_2 {m : Int} {fl : Nat} {hp : List Blk} {n : Node} {ks : AV} {vs : List AV} (hk : IsSl 8 ks vs) (hr : ∀ fl h, evI (cfg m) fl 30 [ks, fnR] h = some (.bool false, h)) (k1 : n.kind = 2) (k2 : n.set = W4.zero) (k3 : n.mn = 0) (k4 : n.mx = 0) (k5 : vs.length = 0) : evI (cfg m) fl 20 [nAV n ks] hp = some (.bool true, hp) := by
  exact E.evX (AV.bool true) (hp ++ [BC [AI n.kind, AW (↑n.set.a.toNat : Int), AW (↑n.set.b.toNat : Int), AW (↑n.set.c.toNat : Int), AW (↑n.set.d.toNat : Int), AI n.mn, AI n.mx, ks]]) [.m 2 1 (E.load_ok (C := cfg m) (t := 34) (b := hp.length) (off := 7) (hp := hp ++ [BC [AI n.kind, AW (↑n.set.a.toNat : Int), AW (↑n.set.b.toNat : Int), AW (↑n.set.c.toNat : Int), AW (↑n.set.d.toNat : Int), AI n.mn, AI n.mx, ks]]) (cs := [AI n.kind, AW (↑n.set.a.toNat : Int), AW (↑n.set.b.toNat : Int), AW (↑n.set.c.toNat : Int), AW (↑n.set.d.toNat : Int), AI n.mn, AI n.mx, ks]) (x := ks) E.blk_last (by kernel_rfl)), .c 2 2 (hr (hp.length) (hp ++ [BC [AI n.kind, AW (↑n.set.a.toNat : Int), AW (↑n.set.b.toNat : Int), AW (↑n.set.c.toNat : Int), AW (↑n.set.d.toNat : Int), AI n.mn, AI n.mx, ks]])), .m 2 5 (E.load_ok (C := cfg m) (t := 3) (b := hp.length) (off := 0) (hp := hp ++ [BC [AI n.kind, AW (↑n.set.a.toNat : Int), AW (↑n.set.b.toNat : Int), AW (↑n.set.c.toNat : Int), AW (↑n.set.d.toNat : Int), AI n.mn, AI n.mx, ks]]) (cs := [AI n.kind, AW (↑n.set.a.toNat : Int), AW (↑n.set.b.toNat : Int), AW (↑n.set.c.toNat : Int), AW (↑n.set.d.toNat : Int), AI n.mn, AI n.mx, ks]) (x := AI n.kind) E.blk_last (by kernel_rfl)), .b 2 6 (beq_false_of_ne ((show ¬n.kind = 1 from (by omega)))), .m 2 8 (E.load_ok (C := cfg m) (t := 24) (b := hp.length) (off := 1) (hp := hp ++ [BC [AI n.kind, AW (↑n.set.a.toNat : Int), AW (↑n.set.b.toNat : Int), AW (↑n.set.c.toNat : Int), AW (↑n.set.d.toNat : Int), AI n.mn, AI n.mx, ks]]) (cs := [AI n.kind, AW (↑n.set.a.toNat : Int), AW (↑n.set.b.toNat : Int), AW (↑n.set.c.toNat : Int), AW (↑n.set.d.toNat : Int), AI n.mn, AI n.mx, ks]) (x := AV.agg [AW (↑n.set.a.toNat : Int), AW (↑n.set.b.toNat : Int), AW (↑n.set.c.toNat : Int), AW (↑n.set.d.toNat : Int)]) E.blk_last (by kernel_rfl)), .vb 2 10 (E.neW4z (C := cfg m) (t := 24) (cst := false) (s := n.set) (by kernel_rfl)) (congrArg not (decide_eq_true (k2))), .m 4 1 (E.load_ok (C := cfg m) (t := 3) (b := hp.length) (off := 5) (hp := hp ++ [BC [AI n.kind, AW (↑n.set.a.toNat : Int), AW (↑n.set.b.toNat : Int), AW (↑n.set.c.toNat : Int), AW (↑n.set.d.toNat : Int), AI n.mn, AI n.mx, ks]]) (cs := [AI n.kind, AW (↑n.set.a.toNat : Int), AW (↑n.set.b.toNat : Int), AW (↑n.set.c.toNat : Int), AW (↑n.set.d.toNat : Int), AI n.mn, AI n.mx, ks]) (x := AI n.mn) E.blk_last (by kernel_rfl)), .b 4 2 (beq_iff_eq.2 (k3)), .m 4 5 (E.load_ok (C := cfg m) (t := 3) (b := hp.length) (off := 6) (hp := hp ++ [BC [AI n.kind, AW (↑n.set.a.toNat : Int), AW (↑n.set.b.toNat : Int), AW (↑n.set.c.toNat : Int), AW (↑n.set.d.toNat : Int), AI n.mn, AI n.mx, ks]]) (cs := [AI n.kind, AW (↑n.set.a.toNat : Int), AW (↑n.set.b.toNat : Int), AW (↑n.set.c.toNat : Int), AW (↑n.set.d.toNat : Int), AI n.mn, AI n.mx, ks]) (x := AI n.mx) E.blk_last (by kernel_rfl)), .b 4 6 (beq_iff_eq.2 (k4)), .m 5 1 (E.load_ok (C := cfg m) (t := 3) (b := hp.length) (off := 0) (hp := hp ++ [BC [AI n.kind, AW (↑n.set.a.toNat : Int), AW (↑n.set.b.toNat : Int), AW (↑n.set.c.toNat : Int), AW (↑n.set.d.toNat : Int), AI n.mn, AI n.mx, ks]]) (cs := [AI n.kind, AW (↑n.set.a.toNat : Int), AW (↑n.set.b.toNat : Int), AW (↑n.set.c.toNat : Int), AW (↑n.set.d.toNat : Int), AI n.mn, AI n.mx, ks]) (x := AI n.kind) E.blk_last (by kernel_rfl)), .b 6 0 (beq_false_of_ne ((show ¬n.kind = 0 from (by omega)))), .b 7 0 (beq_false_of_ne ((show ¬n.kind = 1 from (by omega)))), .b 8 0 (beq_iff_eq.2 (k1)), .c 10 3 (E.S4.kd_ok (m := m) (fl := hp.length) (rb := hp.length) (hp := hp ++ [BC [AI n.kind, AW (↑n.set.a.toNat : Int), AW (↑n.set.b.toNat : Int), AW (↑n.set.c.toNat : Int), AW (↑n.set.d.toNat : Int), AI n.mn, AI n.mx, ks]]) (n := n) (a := 0) (b := 0) E.blk_last hk (by omega) (by omega))] (by kernel_rfl) (E.tlP (by kernel_rfl) rfl (E.shutT (v := AV.bool true) (v' := AV.bool true) (by kernel_rfl))) rfl

theorem rt_3 {m : Int} {fl : Nat} {hp : List Blk} {n : Node} {ks : AV} {vs : List AV} (hk : IsSl 8 ks vs) (hr : ∀ fl h, evI (cfg m) fl 30 [ks, fnR] h = some (.bool false, h)) (k1 : n.kind = 3) (k2 : n.set = W4.zero) (k3 : n.mn = 0) (k4 : n.mx = 0) (k5 : vs.length = 0) : evI (cfg m) fl 20 [nAV n ks] hp = some (.bool true, hp) := by
  exact E.evX (AV.bool true) (hp ++ [BC [AI n.kind, AW (↑n.set.a.toNat : Int), AW (↑n.set.b.toNat : Int), AW (↑n.set.c.toNat : Int), AW (↑n.set.d.toNat : Int), AI n.mn, AI n.mx, ks]]) [.m 2 1 (E.load_ok (C := cfg m) (t := 34) (b := hp.length) (off := 7) (hp := hp ++ [BC [AI n.kind, AW (↑n.set.a.toNat : Int), AW (↑n.set.b.toNat : Int), AW (↑n.set.c.toNat : Int), AW (↑n.set.d.toNat : Int), AI n.mn, AI n.mx, ks]]) (cs := [AI n.kind, AW (↑n.set.a.toNat : Int), AW (↑n.set.b.toNat : Int), AW (↑n.set.c.toNat : Int), AW (↑n.set.d.toNat : Int), AI n.mn, AI n.mx, ks]) (x := ks) E.blk_last (by kernel_rfl)), .c 2 2 (hr (hp.length) (hp ++ [BC [AI n.kind, AW (↑n.set.a.toNat : Int), AW (↑n.set.b.toNat : Int), AW (↑n.set.c.toNat : Int), AW (↑n.set.d.toNat : Int), AI n.mn, AI n.mx, ks]])), .m 2 5 (E.load_ok (C := cfg m) (t := 3) (b := hp.length) (off := 0) (hp := hp ++ [BC [AI n.kind, AW (↑n.set.a.toNat : Int), AW (↑n.set.b.toNat : Int), AW (↑n.set.c.toNat : Int), AW (↑n.set.d.toNat : Int), AI n.mn, AI n.mx, ks]]) (cs := [AI n.kind, AW (↑n.set.a.toNat : Int), AW (↑n.set.b.toNat : Int), AW (↑n.set.c.toNat : Int), AW (↑n.set.d.toNat : Int), AI n.mn, AI n.mx, ks]) (x := AI n.kind) E.blk_last (by kernel_rfl)), .b 2 6 (beq_false_of_ne ((show ¬n.kind = 1 from (by omega)))), .m 2 8 (E.load_ok (C := cfg m) (t := 24) (b := hp.length) (off := 1) (hp := hp ++ [BC [AI n.kind, AW (↑n.set.a.toNat : Int), AW (↑n.set.b.toNat : Int), AW (↑n.set.c.toNat : Int), AW (↑n.set.d.toNat : Int), AI n.mn, AI n.mx, ks]]) (cs := [AI n.kind, AW (↑n.set.a.toNat : Int), AW (↑n.set.b.toNat : Int), AW (↑n.set.c.toNat : Int), AW (↑n.set.d.toNat : Int), AI n.mn, AI n.mx, ks]) (x := AV.agg [AW (↑n.set.a.toNat : Int), AW (↑n.set.b.toNat : Int), AW (↑n.set.c.toNat : Int), AW (↑n.set.d.toNat : Int)]) E.blk_last (by kernel_rfl)), .vb 2 10 (E.neW4z (C := cfg m) (t := 24) (cst := false) (s := n.set) (by kernel_rfl)) (congrArg not (decide_eq_true (k2))), .m 4 1 (E.load_ok (C := cfg m) (t := 3) (b := hp.length) (off := 5) (hp := hp ++ [BC [AI n.kind, AW (↑n.set.a.toNat : Int), AW (↑n.set.b.toNat : Int), AW (↑n.set.c.toNat : Int), AW (↑n.set.d.toNat : Int), AI n.mn, AI n.mx, ks]]) (cs := [AI n.kind, AW (↑n.set.a.toNat : Int), AW (↑n.set.b.toNat : Int), AW (↑n.set.c.toNat : Int), AW (↑n.set.d.toNat : Int), AI n.mn, AI n.mx, ks]) (x := AI n.mn) E.blk_last (by kernel_rfl)), .b 4 2 (beq_iff_eq.2 (k3)), .m 4 5 (E.load_ok (C := cfg m) (t := 3) (b := hp.length) (off := 6) (hp := hp ++ [BC [AI n.kind, AW (↑n.set.a.toNat : Int), AW (↑n.set.b.toNat : Int), AW (↑n.set.c.toNat : Int), AW (↑n.set.d.toNat : Int), AI n.mn, AI n.mx, ks]]) (cs := [AI n.kind, AW (↑n.set.a.toNat : Int), AW (↑n.set.b.toNat : Int), AW (↑n.set.c.toNat : Int), AW (↑n.set.d.toNat : Int), AI n.mn, AI n.mx, ks]) (x := AI n.mx) E.blk_last (by kernel_rfl)), .b 4 6 (beq_iff_eq.2 (k4)), .m 5 1 (E.load_ok (C := cfg m) (t := 3) (b := hp.length) (off := 0) (hp := hp ++ [BC [AI n.kind, AW (↑n.set.a.toNat : Int), AW (↑n.set.b.toNat : Int), AW (↑n.set.c.toNat : Int), AW (↑n.set.d.toNat : Int), AI n.mn, AI n.mx, ks]]) (cs := [AI n.kind, AW (↑n.set.a.toNat : Int), AW (↑n.set.b.toNat : Int), AW (↑n.set.c.toNat : Int), AW (↑n.set.d.toNat : Int), AI n.mn, AI n.mx, ks]) (x := AI n.kind) E.blk_last (by kernel_rfl)), .b 6 0 (beq_false_of_ne ((show ¬n.kind = 0 from (by omega)))), .b 7 0 (beq_false_of_ne ((show ¬n.kind = 1 from (by omega)))), .b 8 0 (beq_false_of_ne ((show ¬n.kind = 2 from (by omega)))), .b 9 0 (beq_iff_eq.2 (k1)), .c 10 3 (E.S4.kd_ok (m := m) (fl := hp.length) (rb := hp.length) (hp := hp ++ [BC [AI n.kind, AW (↑n.set.a.toNat : Int), AW (↑n.set.b.toNat : Int), AW (↑n.set.c.toNat : Int), AW (↑n.set.d.toNat : Int), AI n.mn, AI n.mx, ks]]) (n := n) (a := 0) (b := 0) E.blk_last hk (by omega) (by omega))] (by kernel_rfl) (E.tlP (by kernel_rfl) rfl (E.shutT (v := AV.bool true) (v' := AV.bool true) (by kernel_rfl))) rfl

theorem rt_1 {m : Int} {fl : Nat} {hp : List Blk} {n : Node} {ks : AV} {vs : List AV} (hk : IsSl 8 ks vs) (hr : ∀ fl h, evI (cfg m) fl 30 [ks, fnR] h = some (.bool false, h)) (k1 : n.kind = 1) (k2 : ¬ n.set = W4.zero) (k3 : n.mn = 0) (k4 : n.mx = 0) (k5 : vs.length = 0) : evI (cfg m) fl 20 [nAV n ks] hp = some (.bool true, hp) := by
  exact E.evX (AV.bool true) (hp ++ [BC [AI n.kind, AW (↑n.set.a.toNat : Int), AW (↑n.set.b.toNat : Int), AW (↑n.set.c.toNat : Int), AW (↑n.set.d.toNat : Int), AI n.mn, AI n.mx, ks]]) [.m 2 1 (E.load_ok (C := cfg m) (t := 34) (b := hp.length) (off := 7) (hp := hp ++ [BC [AI n.kind, AW (↑n.set.a.toNat : Int), AW (↑n.set.b.toNat : Int), AW (↑n.set.c.toNat : Int), AW (↑n.set.d.toNat : Int), AI n.mn, AI n.mx, ks]]) (cs := [AI n.kind, AW (↑n.set.a.toNat : Int), AW (↑n.set.b.toNat : Int), AW (↑n.set.c.toNat : Int), AW (↑n.set.d.toNat : Int), AI n.mn, AI n.mx, ks]) (x := ks) E.blk_last (by kernel_rfl)), .c 2 2 (hr (hp.length) (hp ++ [BC [AI n.kind, AW (↑n.set.a.toNat : Int), AW (↑n.set.b.toNat : Int), AW (↑n.set.c.toNat : Int), AW (↑n.set.d.toNat : Int), AI n.mn, AI n.mx, ks]])), .m 2 5 (E.load_ok (C := cfg m) (t := 3) (b := hp.length) (off := 0) (hp := hp ++ [BC [AI n.kind, AW (↑n.set.a.toNat : Int), AW (↑n.set.b.toNat : Int), AW (↑n.set.c.toNat : Int), AW (↑n.set.d.toNat : Int), AI n.mn, AI n.mx, ks]]) (cs := [AI n.kind, AW (↑n.set.a.toNat : Int), AW (↑n.set.b.toNat : Int), AW (↑n.set.c.toNat : Int), AW (↑n.set.d.toNat : Int), AI n.mn, AI n.mx, ks]) (x := AI n.kind) E.blk_last (by kernel_rfl)), .b 2 6 (beq_iff_eq.2 (k1)), .m 2 8 (E.load_ok (C := cfg m) (t := 24) (b := hp.length) (off := 1) (hp := hp ++ [BC [AI n.kind, AW (↑n.set.a.toNat : Int), AW (↑n.set.b.toNat : Int), AW (↑n.set.c.toNat : Int), AW (↑n.set.d.toNat : Int), AI n.mn, AI n.mx, ks]]) (cs := [AI n.kind, AW (↑n.set.a.toNat : Int), AW (↑n.set.b.toNat : Int), AW (↑n.set.c.toNat : Int), AW (↑n.set.d.toNat : Int), AI n.mn, AI n.mx, ks]) (x := AV.agg [AW (↑n.set.a.toNat : Int), AW (↑n.set.b.toNat : Int), AW (↑n.set.c.toNat : Int), AW (↑n.set.d.toNat : Int)]) E.blk_last (by kernel_rfl)), .vb 2 10 (E.neW4z (C := cfg m) (t := 24) (cst := false) (s := n.set) (by kernel_rfl)) (congrArg not (decide_eq_false (k2))), .m 4 1 (E.load_ok (C := cfg m) (t := 3) (b := hp.length) (off := 5) (hp := hp ++ [BC [AI n.kind, AW (↑n.set.a.toNat : Int), AW (↑n.set.b.toNat : Int), AW (↑n.set.c.toNat : Int), AW (↑n.set.d.toNat : Int), AI n.mn, AI n.mx, ks]]) (cs := [AI n.kind, AW (↑n.set.a.toNat : Int), AW (↑n.set.b.toNat : Int), AW (↑n.set.c.toNat : Int), AW (↑n.set.d.toNat : Int), AI n.mn, AI n.mx, ks]) (x := AI n.mn) E.blk_last (by kernel_rfl)), .b 4 2 (beq_iff_eq.2 (k3)), .m 4 5 (E.load_ok (C := cfg m) (t := 3) (b := hp.length) (off := 6) (hp := hp ++ [BC [AI n.kind, AW (↑n.set.a.toNat : Int), AW (↑n.set.b.toNat : Int), AW (↑n.set.c.toNat : Int), AW (↑n.set.d.toNat : Int), AI n.mn, AI n.mx, ks]]) (cs := [AI n.kind, AW (↑n.set.a.toNat : Int), AW (↑n.set.b.toNat : Int), AW (↑n.set.c.toNat : Int), AW (↑n.set.d.toNat : Int), AI n.mn, AI n.mx, ks]) (x := AI n.mx) E.blk_last (by kernel_rfl)), .b 4 6 (beq_iff_eq.2 (k4)), .m 5 1 (E.load_ok (C := cfg m) (t := 3) (b := hp.length) (off := 0) (hp := hp ++ [BC [AI n.kind, AW (↑n.set.a.toNat : Int), AW (↑n.set.b.toNat : Int), AW (↑n.set.c.toNat : Int), AW (↑n.set.d.toNat : Int), AI n.mn, AI n.mx, ks]]) (cs := [AI n.kind, AW (↑n.set.a.toNat : Int), AW (↑n.set.b.toNat : Int), AW (↑n.set.c.toNat : Int), AW (↑n.set.d.toNat : Int), AI n.mn, AI n.mx, ks]) (x := AI n.kind) E.blk_last (by kernel_rfl)), .b 6 0 (beq_false_of_ne ((show ¬n.kind = 0 from (by omega)))), .b 7 0 (beq_iff_eq.2 (k1)), .c 10 3 (E.S4.kd_ok (m := m) (fl := hp.length) (rb := hp.length) (hp := hp ++ [BC [AI n.kind, AW (↑n.set.a.toNat : Int), AW (↑n.set.b.toNat : Int), AW (↑n.set.c.toNat : Int), AW (↑n.set.d.toNat : Int), AI n.mn, AI n.mx, ks]]) (n := n) (a := 0) (b := 0) E.blk_last hk (by omega) (by omega))] (by kernel_rfl) (E.tlP (by kernel_rfl) rfl (E.shutT (v := AV.bool true) (v' := AV.bool true) (by kernel_rfl))) rfl

theorem rt_4 {m : Int} {fl : Nat} {hp : List Blk} {n : Node} {ks : AV} {vs : List AV} (hk : IsSl 8 ks vs) (hr : ∀ fl h, evI (cfg m) fl 30 [ks, fnR] h = some (.bool false, h)) (k1 : n.kind = 4) (k2 : n.set = W4.zero) (k3 : n.mn = 0) (k4 : n.mx = 0) (k5 : 2 ≤ vs.length) (k6 : vs.length ≤ 1000000) : evI (cfg m) fl 20 [nAV n ks] hp = some (.bool true, hp) := by
  exact E.evX (AV.bool true) (hp ++ [BC [AI n.kind, AW (↑n.set.a.toNat : Int), AW (↑n.set.b.toNat : Int), AW (↑n.set.c.toNat : Int), AW (↑n.set.d.toNat : Int), AI n.mn, AI n.mx, ks]]) [.m 2 1 (E.load_ok (C := cfg m) (t := 34) (b := hp.length) (off := 7) (hp := hp ++ [BC [AI n.kind, AW (↑n.set.a.toNat : Int), AW (↑n.set.b.toNat : Int), AW (↑n.set.c.toNat : Int), AW (↑n.set.d.toNat : Int), AI n.mn, AI n.mx, ks]]) (cs := [AI n.kind, AW (↑n.set.a.toNat : Int), AW (↑n.set.b.toNat : Int), AW (↑n.set.c.toNat : Int), AW (↑n.set.d.toNat : Int), AI n.mn, AI n.mx, ks]) (x := ks) E.blk_last (by kernel_rfl)), .c 2 2 (hr (hp.length) (hp ++ [BC [AI n.kind, AW (↑n.set.a.toNat : Int), AW (↑n.set.b.toNat : Int), AW (↑n.set.c.toNat : Int), AW (↑n.set.d.toNat : Int), AI n.mn, AI n.mx, ks]])), .m 2 5 (E.load_ok (C := cfg m) (t := 3) (b := hp.length) (off := 0) (hp := hp ++ [BC [AI n.kind, AW (↑n.set.a.toNat : Int), AW (↑n.set.b.toNat : Int), AW (↑n.set.c.toNat : Int), AW (↑n.set.d.toNat : Int), AI n.mn, AI n.mx, ks]]) (cs := [AI n.kind, AW (↑n.set.a.toNat : Int), AW (↑n.set.b.toNat : Int), AW (↑n.set.c.toNat : Int), AW (↑n.set.d.toNat : Int), AI n.mn, AI n.mx, ks]) (x := AI n.kind) E.blk_last (by kernel_rfl)), .b 2 6 (beq_false_of_ne ((show ¬n.kind = 1 from (by omega)))), .m 2 8 (E.load_ok (C := cfg m) (t := 24) (b := hp.length) (off := 1) (hp := hp ++ [BC [AI n.kind, AW (↑n.set.a.toNat : Int), AW (↑n.set.b.toNat : Int), AW (↑n.set.c.toNat : Int), AW (↑n.set.d.toNat : Int), AI n.mn, AI n.mx, ks]]) (cs := [AI n.kind, AW (↑n.set.a.toNat : Int), AW (↑n.set.b.toNat : Int), AW (↑n.set.c.toNat : Int), AW (↑n.set.d.toNat : Int), AI n.mn, AI n.mx, ks]) (x := AV.agg [AW (↑n.set.a.toNat : Int), AW (↑n.set.b.toNat : Int), AW (↑n.set.c.toNat : Int), AW (↑n.set.d.toNat : Int)]) E.blk_last (by kernel_rfl)), .vb 2 10 (E.neW4z (C := cfg m) (t := 24) (cst := false) (s := n.set) (by kernel_rfl)) (congrArg not (decide_eq_true (k2))), .m 4 1 (E.load_ok (C := cfg m) (t := 3) (b := hp.length) (off := 5) (hp := hp ++ [BC [AI n.kind, AW (↑n.set.a.toNat : Int), AW (↑n.set.b.toNat : Int), AW (↑n.set.c.toNat : Int), AW (↑n.set.d.toNat : Int), AI n.mn, AI n.mx, ks]]) (cs := [AI n.kind, AW (↑n.set.a.toNat : Int), AW (↑n.set.b.toNat : Int), AW (↑n.set.c.toNat : Int), AW (↑n.set.d.toNat : Int), AI n.mn, AI n.mx, ks]) (x := AI n.mn) E.blk_last (by kernel_rfl)), .b 4 2 (beq_iff_eq.2 (k3)), .m 4 5 (E.load_ok (C := cfg m) (t := 3) (b := hp.length) (off := 6) (hp := hp ++ [BC [AI n.kind, AW (↑n.set.a.toNat : Int), AW (↑n.set.b.toNat : Int), AW (↑n.set.c.toNat : Int), AW (↑n.set.d.toNat : Int), AI n.mn, AI n.mx, ks]]) (cs := [AI n.kind, AW (↑n.set.a.toNat : Int), AW (↑n.set.b.toNat : Int), AW (↑n.set.c.toNat : Int), AW (↑n.set.d.toNat : Int), AI n.mn, AI n.mx, ks]) (x := AI n.mx) E.blk_last (by kernel_rfl)), .b 4 6 (beq_iff_eq.2 (k4)), .m 5 1 (E.load_ok (C := cfg m) (t := 3) (b := hp.length) (off := 0) (hp := hp ++ [BC [AI n.kind, AW (↑n.set.a.toNat : Int), AW (↑n.set.b.toNat : Int), AW (↑n.set.c.toNat : Int), AW (↑n.set.d.toNat : Int), AI n.mn, AI n.mx, ks]]) (cs := [AI n.kind, AW (↑n.set.a.toNat : Int), AW (↑n.set.b.toNat : Int), AW (↑n.set.c.toNat : Int), AW (↑n.set.d.toNat : Int), AI n.mn, AI n.mx, ks]) (x := AI n.kind) E.blk_last (by kernel_rfl)), .b 6 0 (beq_false_of_ne ((show ¬n.kind = 0 from (by omega)))), .b 7 0 (beq_false_of_ne ((show ¬n.kind = 1 from (by omega)))), .b 8 0 (beq_false_of_ne ((show ¬n.kind = 2 from (by omega)))), .b 9 0 (beq_false_of_ne ((show ¬n.kind = 3 from (by omega)))), .b 11 0 (beq_iff_eq.2 (k1)), .c 13 3 (E.S4.kd_ok (m := m) (fl := hp.length) (rb := hp.length) (hp := hp ++ [BC [AI n.kind, AW (↑n.set.a.toNat : Int), AW (↑n.set.b.toNat : Int), AW (↑n.set.c.toNat : Int), AW (↑n.set.d.toNat : Int), AI n.mn, AI n.mx, ks]]) (n := n) (a := 2) (b := 1000000) E.blk_last hk (by omega) (by omega))] (by kernel_rfl) (E.tlP (by kernel_rfl) rfl (E.shutT (v := AV.bool true) (v' := AV.bool true) (by kernel_rfl))) rfl

theorem rt_5 {m : Int} {fl : Nat} {hp : List Blk} {n : Node} {ks : AV} {vs : List AV} (hk : IsSl 8 ks vs) (hr : ∀ fl h, evI (cfg m) fl 30 [ks, fnR] h = some (.bool false, h)) (k1 : n.kind = 5) (k2 : n.set = W4.zero) (k3 : n.mn = 0) (k4 : n.mx = 0) (k5 : 2 ≤ vs.length) (k6 : vs.length ≤ 1000000) : evI (cfg m) fl 20 [nAV n ks] hp = some (.bool true, hp) := by
  exact E.evX (AV.bool true) (hp ++ [BC [AI n.kind, AW (↑n.set.a.toNat : Int), AW (↑n.set.b.toNat : Int), AW (↑n.set.c.toNat : Int), AW (↑n.set.d.toNat : Int), AI n.mn, AI n.mx, ks]]) [.m 2 1 (E.load_ok (C := cfg m) (t := 34) (b := hp.length) (off := 7) (hp := hp ++ [BC [AI n.kind, AW (↑n.set.a.toNat : Int), AW (↑n.set.b.toNat : Int), AW (↑n.set.c.toNat : Int), AW (↑n.set.d.toNat : Int), AI n.mn, AI n.mx, ks]]) (cs := [AI n.kind, AW (↑n.set.a.toNat : Int), AW (↑n.set.b.toNat : Int), AW (↑n.set.c.toNat : Int), AW (↑n.set.d.toNat : Int), AI n.mn, AI n.mx, ks]) (x := ks) E.blk_last (by kernel_rfl)), .c 2 2 (hr (hp.length) (hp ++ [BC [AI n.kind, AW (↑n.set.a.toNat : Int), AW (↑n.set.b.toNat : Int), AW (↑n.set.c.toNat : Int), AW (↑n.set.d.toNat : Int), AI n.mn, AI n.mx, ks]])), .m 2 5 (E.load_ok (C := cfg m) (t := 3) (b := hp.length) (off := 0) (hp := hp ++ [BC [AI n.kind, AW (↑n.set.a.toNat : Int), AW (↑n.set.b.toNat : Int), AW (↑n.set.c.toNat : Int), AW (↑n.set.d.toNat : Int), AI n.mn, AI n.mx, ks]]) (cs := [AI n.kind, AW (↑n.set.a.toNat : Int), AW (↑n.set.b.toNat : Int), AW (↑n.set.c.toNat : Int), AW (↑n.set.d.toNat : Int), AI n.mn, AI n.mx, ks]) (x := AI n.kind) E.blk_last (by kernel_rfl)), .b 2 6 (beq_false_of_ne ((show ¬n.kind = 1 from (by omega)))), .m 2 8 (E.load_ok (C := cfg m) (t := 24) (b := hp.length) (off := 1) (hp := hp ++ [BC [AI n.kind, AW (↑n.set.a.toNat : Int), AW (↑n.set.b.toNat : Int), AW (↑n.set.c.toNat : Int), AW (↑n.set.d.toNat : Int), AI n.mn, AI n.mx, ks]]) (cs := [AI n.kind, AW (↑n.set.a.toNat : Int), AW (↑n.set.b.toNat : Int), AW (↑n.set.c.toNat : Int), AW (↑n.set.d.toNat : Int), AI n.mn, AI n.mx, ks]) (x := AV.agg [AW (↑n.set.a.toNat : Int), AW (↑n.set.b.toNat : Int), AW (↑n.set.c.toNat : Int), AW (↑n.set.d.toNat : Int)]) E.blk_last (by kernel_rfl)), .vb 2 10 (E.neW4z (C := cfg m) (t := 24) (cst := false) (s := n.set) (by kernel_rfl)) (congrArg not (decide_eq_true (k2))), .m 4 1 (E.load_ok (C := cfg m) (t := 3) (b := hp.length) (off := 5) (hp := hp ++ [BC [AI n.kind, AW (↑n.set.a.toNat : Int), AW (↑n.set.b.toNat : Int), AW (↑n.set.c.toNat : Int), AW (↑n.set.d.toNat : Int), AI n.mn, AI n.mx, ks]]) (cs := [AI n.kind, AW (↑n.set.a.toNat : Int), AW (↑n.set.b.toNat : Int), AW (↑n.set.c.toNat : Int), AW (↑n.set.d.toNat : Int), AI n.mn, AI n.mx, ks]) (x := AI n.mn) E.blk_last (by kernel_rfl)), .b 4 2 (beq_iff_eq.2 (k3)), .m 4 5 (E.load_ok (C := cfg m) (t := 3) (b := hp.length) (off := 6) (hp := hp ++ [BC [AI n.kind, AW (↑n.set.a.toNat : Int), AW (↑n.set.b.toNat : Int), AW (↑n.set.c.toNat : Int), AW (↑n.set.d.toNat : Int), AI n.mn, AI n.mx, ks]]) (cs := [AI n.kind, AW (↑n.set.a.toNat : Int), AW (↑n.set.b.toNat : Int), AW (↑n.set.c.toNat : Int), AW (↑n.set.d.toNat : Int), AI n.mn, AI n.mx, ks]) (x := AI n.mx) E.blk_last (by kernel_rfl)), .b 4 6 (beq_iff_eq.2 (k4)), .m 5 1 (E.load_ok (C := cfg m) (t := 3) (b := hp.length) (off := 0) (hp := hp ++ [BC [AI n.kind, AW (↑n.set.a.toNat : Int), AW (↑n.set.b.toNat : Int), AW (↑n.set.c.toNat : Int), AW (↑n.set.d.toNat : Int), AI n.mn, AI n.mx, ks]]) (cs := [AI n.kind, AW (↑n.set.a.toNat : Int), AW (↑n.set.b.toNat : Int), AW (↑n.set.c.toNat : Int), AW (↑n.set.d.toNat : Int), AI n.mn, AI n.mx, ks]) (x := AI n.kind) E.blk_last (by kernel_rfl)), .b 6 0 (beq_false_of_ne ((show ¬n.kind = 0 from (by omega)))), .b 7 0 (beq_false_of_ne ((show ¬n.kind = 1 from (by omega)))), .b 8 0 (beq_false_of_ne ((show ¬n.kind = 2 from (by omega)))), .b 9 0 (beq_false_of_ne ((show ¬n.kind = 3 from (by omega)))), .b 11 0 (beq_false_of_ne ((show ¬n.kind = 4 from (by omega)))), .b 12 0 (beq_iff_eq.2 (k1)), .c 13 3 (E.S4.kd_ok (m := m) (fl := hp.length) (rb := hp.length) (hp := hp ++ [BC [AI n.kind, AW (↑n.set.a.toNat : Int), AW (↑n.set.b.toNat : Int), AW (↑n.set.c.toNat : Int), AW (↑n.set.d.toNat : Int), AI n.mn, AI n.mx, ks]]) (n := n) (a := 2) (b := 1000000) E.blk_last hk (by omega) (by omega))] (by kernel_rfl) (E.tlP (by kernel_rfl) rfl (E.shutT (v := AV.bool true) (v' := AV.bool true) (by kernel_rfl))) rfl

theorem rt_6a {m : Int} {fl : Nat} {hp : List Blk} {n : Node} {ks : AV} {vs : List AV} (hk : IsSl 8 ks vs) (hr : ∀ fl h, evI (cfg m) fl 30 [ks, fnR] h = some (.bool false, h)) (k1 : n.kind = 6) (k2 : n.set = W4.zero) (k3 : 0 ≤ n.mn) (k4 : n.mn ≤ 20) (k5 : vs.length = 1) (k6 : n.mx = -1) : evI (cfg m) fl 20 [nAV n ks] hp = some (.bool true, hp) := by
  by_cases h1 : n.mn = 0
  · exact E.evX (AV.bool true) (hp ++ [BC [AI n.kind, AW (↑n.set.a.toNat : Int), AW (↑n.set.b.toNat : Int), AW (↑n.set.c.toNat : Int), AW (↑n.set.d.toNat : Int), AI n.mn, AI n.mx, ks]]) [.m 2 1 (E.load_ok (C := cfg m) (t := 34) (b := hp.length) (off := 7) (hp := hp ++ [BC [AI n.kind, AW (↑n.set.a.toNat : Int), AW (↑n.set.b.toNat : Int), AW (↑n.set.c.toNat : Int), AW (↑n.set.d.toNat : Int), AI n.mn, AI n.mx, ks]]) (cs := [AI n.kind, AW (↑n.set.a.toNat : Int), AW (↑n.set.b.toNat : Int), AW (↑n.set.c.toNat : Int), AW (↑n.set.d.toNat : Int), AI n.mn, AI n.mx, ks]) (x := ks) E.blk_last (by kernel_rfl)), .c 2 2 (hr (hp.length) (hp ++ [BC [AI n.kind, AW (↑n.set.a.toNat : Int), AW (↑n.set.b.toNat : Int), AW (↑n.set.c.toNat : Int), AW (↑n.set.d.toNat : Int), AI n.mn, AI n.mx, ks]])), .m 2 5 (E.load_ok (C := cfg m) (t := 3) (b := hp.length) (off := 0) (hp := hp ++ [BC [AI n.kind, AW (↑n.set.a.toNat : Int), AW (↑n.set.b.toNat : Int), AW (↑n.set.c.toNat : Int), AW (↑n.set.d.toNat : Int), AI n.mn, AI n.mx, ks]]) (cs := [AI n.kind, AW (↑n.set.a.toNat : Int), AW (↑n.set.b.toNat : Int), AW (↑n.set.c.toNat : Int), AW (↑n.set.d.toNat : Int), AI n.mn, AI n.mx, ks]) (x := AI n.kind) E.blk_last (by kernel_rfl)), .b 2 6 (beq_false_of_ne ((show ¬n.kind = 1 from (by omega)))), .m 2 8 (E.load_ok (C := cfg m) (t := 24) (b := hp.length) (off := 1) (hp := hp ++ [BC [AI n.kind, AW (↑n.set.a.toNat : Int), AW (↑n.set.b.toNat : Int), AW (↑n.set.c.toNat : Int), AW (↑n.set.d.toNat : Int), AI n.mn, AI n.mx, ks]]) (cs := [AI n.kind, AW (↑n.set.a.toNat : Int), AW (↑n.set.b.toNat : Int), AW (↑n.set.c.toNat : Int), AW (↑n.set.d.toNat : Int), AI n.mn, AI n.mx, ks]) (x := AV.agg [AW (↑n.set.a.toNat : Int), AW (↑n.set.b.toNat : Int), AW (↑n.set.c.toNat : Int), AW (↑n.set.d.toNat : Int)]) E.blk_last (by kernel_rfl)), .vb 2 10 (E.neW4z (C := cfg m) (t := 24) (cst := false) (s := n.set) (by kernel_rfl)) (congrArg not (decide_eq_true (k2))), .m 4 1 (E.load_ok (C := cfg m) (t := 3) (b := hp.length) (off := 5) (hp := hp ++ [BC [AI n.kind, AW (↑n.set.a.toNat : Int), AW (↑n.set.b.toNat : Int), AW (↑n.set.c.toNat : Int), AW (↑n.set.d.toNat : Int), AI n.mn, AI n.mx, ks]]) (cs := [AI n.kind, AW (↑n.set.a.toNat : Int), AW (↑n.set.b.toNat : Int), AW (↑n.set.c.toNat : Int), AW (↑n.set.d.toNat : Int), AI n.mn, AI n.mx, ks]) (x := AI n.mn) E.blk_last (by kernel_rfl)), .b 4 2 (beq_iff_eq.2 h1), .m 4 5 (E.load_ok (C := cfg m) (t := 3) (b := hp.length) (off := 6) (hp := hp ++ [BC [AI n.kind, AW (↑n.set.a.toNat : Int), AW (↑n.set.b.toNat : Int), AW (↑n.set.c.toNat : Int), AW (↑n.set.d.toNat : Int), AI n.mn, AI n.mx, ks]]) (cs := [AI n.kind, AW (↑n.set.a.toNat : Int), AW (↑n.set.b.toNat : Int), AW (↑n.set.c.toNat : Int), AW (↑n.set.d.toNat : Int), AI n.mn, AI n.mx, ks]) (x := AI n.mx) E.blk_last (by kernel_rfl)), .b 4 6 (beq_false_of_ne ((show ¬n.mx = 0 from (by omega)))), .m 5 1 (E.load_ok (C := cfg m) (t := 3) (b := hp.length) (off := 0) (hp := hp ++ [BC [AI n.kind, AW (↑n.set.a.toNat : Int), AW (↑n.set.b.toNat : Int), AW (↑n.set.c.toNat : Int), AW (↑n.set.d.toNat : Int), AI n.mn, AI n.mx, ks]]) (cs := [AI n.kind, AW (↑n.set.a.toNat : Int), AW (↑n.set.b.toNat : Int), AW (↑n.set.c.toNat : Int), AW (↑n.set.d.toNat : Int), AI n.mn, AI n.mx, ks]) (x := AI n.kind) E.blk_last (by kernel_rfl)), .b 6 0 (beq_false_of_ne ((show ¬n.kind = 0 from (by omega)))), .b 7 0 (beq_false_of_ne ((show ¬n.kind = 1 from (by omega)))), .b 8 0 (beq_false_of_ne ((show ¬n.kind = 2 from (by omega)))), .b 9 0 (beq_false_of_ne ((show ¬n.kind = 3 from (by omega)))), .b 11 0 (beq_false_of_ne ((show ¬n.kind = 4 from (by omega)))), .b 12 0 (beq_false_of_ne ((show ¬n.kind = 5 from (by omega)))), .b 14 0 (beq_iff_eq.2 (k1)), .c 15 1 (E.S4.kd_ok (m := m) (fl := hp.length) (rb := hp.length) (hp := hp ++ [BC [AI n.kind, AW (↑n.set.a.toNat : Int), AW (↑n.set.b.toNat : Int), AW (↑n.set.c.toNat : Int), AW (↑n.set.d.toNat : Int), AI n.mn, AI n.mx, ks]]) (n := n) (a := 1) (b := 1) E.blk_last hk (by omega) (by omega)), .m 15 4 (E.load_ok (C := cfg m) (t := 3) (b := hp.length) (off := 5) (hp := hp ++ [BC [AI n.kind, AW (↑n.set.a.toNat : Int), AW (↑n.set.b.toNat : Int), AW (↑n.set.c.toNat : Int), AW (↑n.set.d.toNat : Int), AI n.mn, AI n.mx, ks]]) (cs := [AI n.kind, AW (↑n.set.a.toNat : Int), AW (↑n.set.b.toNat : Int), AW (↑n.set.c.toNat : Int), AW (↑n.set.d.toNat : Int), AI n.mn, AI n.mx, ks]) (x := AI n.mn) E.blk_last (by kernel_rfl)), .b 15 5 (decide_eq_true (k3)), .m 15 9 (E.load_ok (C := cfg m) (t := 3) (b := hp.length) (off := 5) (hp := hp ++ [BC [AI n.kind, AW (↑n.set.a.toNat : Int), AW (↑n.set.b.toNat : Int), AW (↑n.set.c.toNat : Int), AW (↑n.set.d.toNat : Int), AI n.mn, AI n.mx, ks]]) (cs := [AI n.kind, AW (↑n.set.a.toNat : Int), AW (↑n.set.b.toNat : Int), AW (↑n.set.c.toNat : Int), AW (↑n.set.d.toNat : Int), AI n.mn, AI n.mx, ks]) (x := AI n.mn) E.blk_last (by kernel_rfl)), .b 15 10 (decide_eq_true (k4)), .m 15 14 (E.load_ok (C := cfg m) (t := 3) (b := hp.length) (off := 6) (hp := hp ++ [BC [AI n.kind, AW (↑n.set.a.toNat : Int), AW (↑n.set.b.toNat : Int), AW (↑n.set.c.toNat : Int), AW (↑n.set.d.toNat : Int), AI n.mn, AI n.mx, ks]]) (cs := [AI n.kind, AW (↑n.set.a.toNat : Int), AW (↑n.set.b.toNat : Int), AW (↑n.set.c.toNat : Int), AW (↑n.set.d.toNat : Int), AI n.mn, AI n.mx, ks]) (x := AI n.mx) E.blk_last (by kernel_rfl)), .b 15 15 (beq_iff_eq.2 (k6))] (by kernel_rfl) (E.tlP (by kernel_rfl) rfl (E.shutT (v := AV.bool true) (v' := AV.bool true) (by kernel_rfl))) rfl
  · exact E.evX (AV.bool true) (hp ++ [BC [AI n.kind, AW (↑n.set.a.toNat : Int), AW (↑n.set.b.toNat : Int), AW (↑n.set.c.toNat : Int), AW (↑n.set.d.toNat : Int), AI n.mn, AI n.mx, ks]]) [.m 2 1 (E.load_ok (C := cfg m) (t := 34) (b := hp.length) (off := 7) (hp := hp ++ [BC [AI n.kind, AW (↑n.set.a.toNat : Int), AW (↑n.set.b.toNat : Int), AW (↑n.set.c.toNat : Int), AW (↑n.set.d.toNat : Int), AI n.mn, AI n.mx, ks]]) (cs := [AI n.kind, AW (↑n.set.a.toNat : Int), AW (↑n.set.b.toNat : Int), AW (↑n.set.c.toNat : Int), AW (↑n.set.d.toNat : Int), AI n.mn, AI n.mx, ks]) (x := ks) E.blk_last (by kernel_rfl)), .c 2 2 (hr (hp.length) (hp ++ [BC [AI n.kind, AW (↑n.set.a.toNat : Int), AW (↑n.set.b.toNat : Int), AW (↑n.set.c.toNat : Int), AW (↑n.set.d.toNat : Int), AI n.mn, AI n.mx, ks]])), .m 2 5 (E.load_ok (C := cfg m) (t := 3) (b := hp.length) (off := 0) (hp := hp ++ [BC [AI n.kind, AW (↑n.set.a.toNat : Int), AW (↑n.set.b.toNat : Int), AW (↑n.set.c.toNat : Int), AW (↑n.set.d.toNat : Int), AI n.mn, AI n.mx, ks]]) (cs := [AI n.kind, AW (↑n.set.a.toNat : Int), AW (↑n.set.b.toNat : Int), AW (↑n.set.c.toNat : Int), AW (↑n.set.d.toNat : Int), AI n.mn, AI n.mx, ks]) (x := AI n.kind) E.blk_last (by kernel_rfl)), .b 2 6 (beq_false_of_ne ((show ¬n.kind = 1 from (by omega)))), .m 2 8 (E.load_ok (C := cfg m) (t := 24) (b := hp.length) (off := 1) (hp := hp ++ [BC [AI n.kind, AW (↑n.set.a.toNat : Int), AW (↑n.set.b.toNat : Int), AW (↑n.set.c.toNat : Int), AW (↑n.set.d.toNat : Int), AI n.mn, AI n.mx, ks]]) (cs := [AI n.kind, AW (↑n.set.a.toNat : Int), AW (↑n.set.b.toNat : Int), AW (↑n.set.c.toNat : Int), AW (↑n.set.d.toNat : Int), AI n.mn, AI n.mx, ks]) (x := AV.agg [AW (↑n.set.a.toNat : Int), AW (↑n.set.b.toNat : Int), AW (↑n.set.c.toNat : Int), AW (↑n.set.d.toNat : Int)]) E.blk_last (by kernel_rfl)), .vb 2 10 (E.neW4z (C := cfg m) (t := 24) (cst := false) (s := n.set) (by kernel_rfl)) (congrArg not (decide_eq_true (k2))), .m 4 1 (E.load_ok (C := cfg m) (t := 3) (b := hp.length) (off := 5) (hp := hp ++ [BC [AI n.kind, AW (↑n.set.a.toNat : Int), AW (↑n.set.b.toNat : Int), AW (↑n.set.c.toNat : Int), AW (↑n.set.d.toNat : Int), AI n.mn, AI n.mx, ks]]) (cs := [AI n.kind, AW (↑n.set.a.toNat : Int), AW (↑n.set.b.toNat : Int), AW (↑n.set.c.toNat : Int), AW (↑n.set.d.toNat : Int), AI n.mn, AI n.mx, ks]) (x := AI n.mn) E.blk_last (by kernel_rfl)), .b 4 2 (beq_false_of_ne h1), .m 5 1 (E.load_ok (C := cfg m) (t := 3) (b := hp.length) (off := 0) (hp := hp ++ [BC [AI n.kind, AW (↑n.set.a.toNat : Int), AW (↑n.set.b.toNat : Int), AW (↑n.set.c.toNat : Int), AW (↑n.set.d.toNat : Int), AI n.mn, AI n.mx, ks]]) (cs := [AI n.kind, AW (↑n.set.a.toNat : Int), AW (↑n.set.b.toNat : Int), AW (↑n.set.c.toNat : Int), AW (↑n.set.d.toNat : Int), AI n.mn, AI n.mx, ks]) (x := AI n.kind) E.blk_last (by kernel_rfl)), .b 6 0 (beq_false_of_ne ((show ¬n.kind = 0 from (by omega)))), .b 7 0 (beq_false_of_ne ((show ¬n.kind = 1 from (by omega)))), .b 8 0 (beq_false_of_ne ((show ¬n.kind = 2 from (by omega)))), .b 9 0 (beq_false_of_ne ((show ¬n.kind = 3 from (by omega)))), .b 11 0 (beq_false_of_ne ((show ¬n.kind = 4 from (by omega)))), .b 12 0 (beq_false_of_ne ((show ¬n.kind = 5 from (by omega)))), .b 14 0 (beq_iff_eq.2 (k1)), .c 15 1 (E.S4.kd_ok (m := m) (fl := hp.length) (rb := hp.length) (hp := hp ++ [BC [AI n.kind, AW (↑n.set.a.toNat : Int), AW (↑n.set.b.toNat : Int), AW (↑n.set.c.toNat : Int), AW (↑n.set.d.toNat : Int), AI n.mn, AI n.mx, ks]]) (n := n) (a := 1) (b := 1) E.blk_last hk (by omega) (by omega)), .m 15 4 (E.load_ok (C := cfg m) (t := 3) (b := hp.length) (off := 5) (hp := hp ++ [BC [AI n.kind, AW (↑n.set.a.toNat : Int), AW (↑n.set.b.toNat : Int), AW (↑n.set.c.toNat : Int), AW (↑n.set.d.toNat : Int), AI n.mn, AI n.mx, ks]]) (cs := [AI n.kind, AW (↑n.set.a.toNat : Int), AW (↑n.set.b.toNat : Int), AW (↑n.set.c.toNat : Int), AW (↑n.set.d.toNat : Int), AI n.mn, AI n.mx, ks]) (x := AI n.mn) E.blk_last (by kernel_rfl)), .b 15 5 (decide_eq_true (k3)), .m 15 9 (E.load_ok (C := cfg m) (t := 3) (b := hp.length) (off := 5) (hp := hp ++ [BC [AI n.kind, AW (↑n.set.a.toNat : Int), AW (↑n.set.b.toNat : Int), AW (↑n.set.c.toNat : Int), AW (↑n.set.d.toNat : Int), AI n.mn, AI n.mx, ks]]) (cs := [AI n.kind, AW (↑n.set.a.toNat : Int), AW (↑n.set.b.toNat : Int), AW (↑n.set.c.toNat : Int), AW (↑n.set.d.toNat : Int), AI n.mn, AI n.mx, ks]) (x := AI n.mn) E.blk_last (by kernel_rfl)), .b 15 10 (decide_eq_true (k4)), .m 15 14 (E.load_ok (C := cfg m) (t := 3) (b := hp.length) (off := 6) (hp := hp ++ [BC [AI n.kind, AW (↑n.set.a.toNat : Int), AW (↑n.set.b.toNat : Int), AW (↑n.set.c.toNat : Int), AW (↑n.set.d.toNat : Int), AI n.mn, AI n.mx, ks]]) (cs := [AI n.kind, AW (↑n.set.a.toNat : Int), AW (↑n.set.b.toNat : Int), AW (↑n.set.c.toNat : Int), AW (↑n.set.d.toNat : Int), AI n.mn, AI n.mx, ks]) (x := AI n.mx) E.blk_last (by kernel_rfl)), .b 15 15 (beq_iff_eq.2 (k6))] (by kernel_rfl) (E.tlP (by kernel_rfl) rfl (E.shutT (v := AV.bool true) (v' := AV.bool true) (by kernel_rfl))) rfl

theorem rt_6b {m : Int} {fl : Nat} {hp : List Blk} {n : Node} {ks : AV} {vs : List AV} (hk : IsSl 8 ks vs) (hr : ∀ fl h, evI (cfg m) fl 30 [ks, fnR] h = some (.bool false, h)) (k1 : n.kind = 6) (k2 : n.set = W4.zero) (k3 : 0 ≤ n.mn) (k4 : n.mn ≤ 20) (k5 : vs.length = 1) (k6 : ¬ n.mx = -1) (k7 : n.mn ≤ n.mx) (k8 : n.mx ≤ 20) : evI (cfg m) fl 20 [nAV n ks] hp = some (.bool true, hp) := by
  by_cases h1 : n.mn = 0
  · by_cases h2 : n.mx = 0
    · exact E.evX (AV.bool true) (hp ++ [BC [AI n.kind, AW (↑n.set.a.toNat : Int), AW (↑n.set.b.toNat : Int), AW (↑n.set.c.toNat : Int), AW (↑n.set.d.toNat : Int), AI n.mn, AI n.mx, ks]]) [.m 2 1 (E.load_ok (C := cfg m) (t := 34) (b := hp.length) (off := 7) (hp := hp ++ [BC [AI n.kind, AW (↑n.set.a.toNat : Int), AW (↑n.set.b.toNat : Int), AW (↑n.set.c.toNat : Int), AW (↑n.set.d.toNat : Int), AI n.mn, AI n.mx, ks]]) (cs := [AI n.kind, AW (↑n.set.a.toNat : Int), AW (↑n.set.b.toNat : Int), AW (↑n.set.c.toNat : Int), AW (↑n.set.d.toNat : Int), AI n.mn, AI n.mx, ks]) (x := ks) E.blk_last (by kernel_rfl)), .c 2 2 (hr (hp.length) (hp ++ [BC [AI n.kind, AW (↑n.set.a.toNat : Int), AW (↑n.set.b.toNat : Int), AW (↑n.set.c.toNat : Int), AW (↑n.set.d.toNat : Int), AI n.mn, AI n.mx, ks]])), .m 2 5 (E.load_ok (C := cfg m) (t := 3) (b := hp.length) (off := 0) (hp := hp ++ [BC [AI n.kind, AW (↑n.set.a.toNat : Int), AW (↑n.set.b.toNat : Int), AW (↑n.set.c.toNat : Int), AW (↑n.set.d.toNat : Int), AI n.mn, AI n.mx, ks]]) (cs := [AI n.kind, AW (↑n.set.a.toNat : Int), AW (↑n.set.b.toNat : Int), AW (↑n.set.c.toNat : Int), AW (↑n.set.d.toNat : Int), AI n.mn, AI n.mx, ks]) (x := AI n.kind) E.blk_last (by kernel_rfl)), .b 2 6 (beq_false_of_ne ((show ¬n.kind = 1 from (by omega)))), .m 2 8 (E.load_ok (C := cfg m) (t := 24) (b := hp.length) (off := 1) (hp := hp ++ [BC [AI n.kind, AW (↑n.set.a.toNat : Int), AW (↑n.set.b.toNat : Int), AW (↑n.set.c.toNat : Int), AW (↑n.set.d.toNat : Int), AI n.mn, AI n.mx, ks]]) (cs := [AI n.kind, AW (↑n.set.a.toNat : Int), AW (↑n.set.b.toNat : Int), AW (↑n.set.c.toNat : Int), AW (↑n.set.d.toNat : Int), AI n.mn, AI n.mx, ks]) (x := AV.agg [AW (↑n.set.a.toNat : Int), AW (↑n.set.b.toNat : Int), AW (↑n.set.c.toNat : Int), AW (↑n.set.d.toNat : Int)]) E.blk_last (by kernel_rfl)), .vb 2 10 (E.neW4z (C := cfg m) (t := 24) (cst := false) (s := n.set) (by kernel_rfl)) (congrArg not (decide_eq_true (k2))), .m 4 1 (E.load_ok (C := cfg m) (t := 3) (b := hp.length) (off := 5) (hp := hp ++ [BC [AI n.kind, AW (↑n.set.a.toNat : Int), AW (↑n.set.b.toNat : Int), AW (↑n.set.c.toNat : Int), AW (↑n.set.d.toNat : Int), AI n.mn, AI n.mx, ks]]) (cs := [AI n.kind, AW (↑n.set.a.toNat : Int), AW (↑n.set.b.toNat : Int), AW (↑n.set.c.toNat : Int), AW (↑n.set.d.toNat : Int), AI n.mn, AI n.mx, ks]) (x := AI n.mn) E.blk_last (by kernel_rfl)), .b 4 2 (beq_iff_eq.2 h1), .m 4 5 (E.load_ok (C := cfg m) (t := 3) (b := hp.length) (off := 6) (hp := hp ++ [BC [AI n.kind, AW (↑n.set.a.toNat : Int), AW (↑n.set.b.toNat : Int), AW (↑n.set.c.toNat : Int), AW (↑n.set.d.toNat : Int), AI n.mn, AI n.mx, ks]]) (cs := [AI n.kind, AW (↑n.set.a.toNat : Int), AW (↑n.set.b.toNat : Int), AW (↑n.set.c.toNat : Int), AW (↑n.set.d.toNat : Int), AI n.mn, AI n.mx, ks]) (x := AI n.mx) E.blk_last (by kernel_rfl)), .b 4 6 (beq_iff_eq.2 h2), .m 5 1 (E.load_ok (C := cfg m) (t := 3) (b := hp.length) (off := 0) (hp := hp ++ [BC [AI n.kind, AW (↑n.set.a.toNat : Int), AW (↑n.set.b.toNat : Int), AW (↑n.set.c.toNat : Int), AW (↑n.set.d.toNat : Int), AI n.mn, AI n.mx, ks]]) (cs := [AI n.kind, AW (↑n.set.a.toNat : Int), AW (↑n.set.b.toNat : Int), AW (↑n.set.c.toNat : Int), AW (↑n.set.d.toNat : Int), AI n.mn, AI n.mx, ks]) (x := AI n.kind) E.blk_last (by kernel_rfl)), .b 6 0 (beq_false_of_ne ((show ¬n.kind = 0 from (by omega)))), .b 7 0 (beq_false_of_ne ((show ¬n.kind = 1 from (by omega)))), .b 8 0 (beq_false_of_ne ((show ¬n.kind = 2 from (by omega)))), .b 9 0 (beq_false_of_ne ((show ¬n.kind = 3 from (by omega)))), .b 11 0 (beq_false_of_ne ((show ¬n.kind = 4 from (by omega)))), .b 12 0 (beq_false_of_ne ((show ¬n.kind = 5 from (by omega)))), .b 14 0 (beq_iff_eq.2 (k1)), .c 15 1 (E.S4.kd_ok (m := m) (fl := hp.length) (rb := hp.length) (hp := hp ++ [BC [AI n.kind, AW (↑n.set.a.toNat : Int), AW (↑n.set.b.toNat : Int), AW (↑n.set.c.toNat : Int), AW (↑n.set.d.toNat : Int), AI n.mn, AI n.mx, ks]]) (n := n) (a := 1) (b := 1) E.blk_last hk (by omega) (by omega)), .m 15 4 (E.load_ok (C := cfg m) (t := 3) (b := hp.length) (off := 5) (hp := hp ++ [BC [AI n.kind, AW (↑n.set.a.toNat : Int), AW (↑n.set.b.toNat : Int), AW (↑n.set.c.toNat : Int), AW (↑n.set.d.toNat : Int), AI n.mn, AI n.mx, ks]]) (cs := [AI n.kind, AW (↑n.set.a.toNat : Int), AW (↑n.set.b.toNat : Int), AW (↑n.set.c.toNat : Int), AW (↑n.set.d.toNat : Int), AI n.mn, AI n.mx, ks]) (x := AI n.mn) E.blk_last (by kernel_rfl)), .b 15 5 (decide_eq_true (k3)), .m 15 9 (E.load_ok (C := cfg m) (t := 3) (b := hp.length) (off := 5) (hp := hp ++ [BC [AI n.kind, AW (↑n.set.a.toNat : Int), AW (↑n.set.b.toNat : Int), AW (↑n.set.c.toNat : Int), AW (↑n.set.d.toNat : Int), AI n.mn, AI n.mx, ks]]) (cs := [AI n.kind, AW (↑n.set.a.toNat : Int), AW (↑n.set.b.toNat : Int), AW (↑n.set.c.toNat : Int), AW (↑n.set.d.toNat : Int), AI n.mn, AI n.mx, ks]) (x := AI n.mn) E.blk_last (by kernel_rfl)), .b 15 10 (decide_eq_true (k4)), .m 15 14 (E.load_ok (C := cfg m) (t := 3) (b := hp.length) (off := 6) (hp := hp ++ [BC [AI n.kind, AW (↑n.set.a.toNat : Int), AW (↑n.set.b.toNat : Int), AW (↑n.set.c.toNat : Int), AW (↑n.set.d.toNat : Int), AI n.mn, AI n.mx, ks]]) (cs := [AI n.kind, AW (↑n.set.a.toNat : Int), AW (↑n.set.b.toNat : Int), AW (↑n.set.c.toNat : Int), AW (↑n.set.d.toNat : Int), AI n.mn, AI n.mx, ks]) (x := AI n.mx) E.blk_last (by kernel_rfl)), .b 15 15 (beq_false_of_ne (k6)), .m 15 18 (E.load_ok (C := cfg m) (t := 3) (b := hp.length) (off := 6) (hp := hp ++ [BC [AI n.kind, AW (↑n.set.a.toNat : Int), AW (↑n.set.b.toNat : Int), AW (↑n.set.c.toNat : Int), AW (↑n.set.d.toNat : Int), AI n.mn, AI n.mx, ks]]) (cs := [AI n.kind, AW (↑n.set.a.toNat : Int), AW (↑n.set.b.toNat : Int), AW (↑n.set.c.toNat : Int), AW (↑n.set.d.toNat : Int), AI n.mn, AI n.mx, ks]) (x := AI n.mx) E.blk_last (by kernel_rfl)), .m 15 20 (E.load_ok (C := cfg m) (t := 3) (b := hp.length) (off := 5) (hp := hp ++ [BC [AI n.kind, AW (↑n.set.a.toNat : Int), AW (↑n.set.b.toNat : Int), AW (↑n.set.c.toNat : Int), AW (↑n.set.d.toNat : Int), AI n.mn, AI n.mx, ks]]) (cs := [AI n.kind, AW (↑n.set.a.toNat : Int), AW (↑n.set.b.toNat : Int), AW (↑n.set.c.toNat : Int), AW (↑n.set.d.toNat : Int), AI n.mn, AI n.mx, ks]) (x := AI n.mn) E.blk_last (by kernel_rfl)), .b 15 21 (decide_eq_true (k7)), .m 15 24 (E.load_ok (C := cfg m) (t := 3) (b := hp.length) (off := 6) (hp := hp ++ [BC [AI n.kind, AW (↑n.set.a.toNat : Int), AW (↑n.set.b.toNat : Int), AW (↑n.set.c.toNat : Int), AW (↑n.set.d.toNat : Int), AI n.mn, AI n.mx, ks]]) (cs := [AI n.kind, AW (↑n.set.a.toNat : Int), AW (↑n.set.b.toNat : Int), AW (↑n.set.c.toNat : Int), AW (↑n.set.d.toNat : Int), AI n.mn, AI n.mx, ks]) (x := AI n.mx) E.blk_last (by kernel_rfl)), .b 15 25 (decide_eq_true (k8))] (by kernel_rfl) (E.tlP (by kernel_rfl) rfl (E.shutT (v := AV.bool true) (v' := AV.bool true) (by kernel_rfl))) rfl
    · exact E.evX (AV.bool true) (hp ++ [BC [AI n.kind, AW (↑n.set.a.toNat : Int), AW (↑n.set.b.toNat : Int), AW (↑n.set.c.toNat : Int), AW (↑n.set.d.toNat : Int), AI n.mn, AI n.mx, ks]]) [.m 2 1 (E.load_ok (C := cfg m) (t := 34) (b := hp.length) (off := 7) (hp := hp ++ [BC [AI n.kind, AW (↑n.set.a.toNat : Int), AW (↑n.set.b.toNat : Int), AW (↑n.set.c.toNat : Int), AW (↑n.set.d.toNat : Int), AI n.mn, AI n.mx, ks]]) (cs := [AI n.kind, AW (↑n.set.a.toNat : Int), AW (↑n.set.b.toNat : Int), AW (↑n.set.c.toNat : Int), AW (↑n.set.d.toNat : Int), AI n.mn, AI n.mx, ks]) (x := ks) E.blk_last (by kernel_rfl)), .c 2 2 (hr (hp.length) (hp ++ [BC [AI n.kind, AW (↑n.set.a.toNat : Int), AW (↑n.set.b.toNat : Int), AW (↑n.set.c.toNat : Int), AW (↑n.set.d.toNat : Int), AI n.mn, AI n.mx, ks]])), .m 2 5 (E.load_ok (C := cfg m) (t := 3) (b := hp.length) (off := 0) (hp := hp ++ [BC [AI n.kind, AW (↑n.set.a.toNat : Int), AW (↑n.set.b.toNat : Int), AW (↑n.set.c.toNat : Int), AW (↑n.set.d.toNat : Int), AI n.mn, AI n.mx, ks]]) (cs := [AI n.kind, AW (↑n.set.a.toNat : Int), AW (↑n.set.b.toNat : Int), AW (↑n.set.c.toNat : Int), AW (↑n.set.d.toNat : Int), AI n.mn, AI n.mx, ks]) (x := AI n.kind) E.blk_last (by kernel_rfl)), .b 2 6 (beq_false_of_ne ((show ¬n.kind = 1 from (by omega)))), .m 2 8 (E.load_ok (C := cfg m) (t := 24) (b := hp.length) (off := 1) (hp := hp ++ [BC [AI n.kind, AW (↑n.set.a.toNat : Int), AW (↑n.set.b.toNat : Int), AW (↑n.set.c.toNat : Int), AW (↑n.set.d.toNat : Int), AI n.mn, AI n.mx, ks]]) (cs := [AI n.kind, AW (↑n.set.a.toNat : Int), AW (↑n.set.b.toNat : Int), AW (↑n.set.c.toNat : Int), AW (↑n.set.d.toNat : Int), AI n.mn, AI n.mx, ks]) (x := AV.agg [AW (↑n.set.a.toNat : Int), AW (↑n.set.b.toNat : Int), AW (↑n.set.c.toNat : Int), AW (↑n.set.d.toNat : Int)]) E.blk_last (by kernel_rfl)), .vb 2 10 (E.neW4z (C := cfg m) (t := 24) (cst := false) (s := n.set) (by kernel_rfl)) (congrArg not (decide_eq_true (k2))), .m 4 1 (E.load_ok (C := cfg m) (t := 3) (b := hp.length) (off := 5) (hp := hp ++ [BC [AI n.kind, AW (↑n.set.a.toNat : Int), AW (↑n.set.b.toNat : Int), AW (↑n.set.c.toNat : Int), AW (↑n.set.d.toNat : Int), AI n.mn, AI n.mx, ks]]) (cs := [AI n.kind, AW (↑n.set.a.toNat : Int), AW (↑n.set.b.toNat : Int), AW (↑n.set.c.toNat : Int), AW (↑n.set.d.toNat : Int), AI n.mn, AI n.mx, ks]) (x := AI n.mn) E.blk_last (by kernel_rfl)), .b 4 2 (beq_iff_eq.2 h1), .m 4 5 (E.load_ok (C := cfg m) (t := 3) (b := hp.length) (off := 6) (hp := hp ++ [BC [AI n.kind, AW (↑n.set.a.toNat : Int), AW (↑n.set.b.toNat : Int), AW (↑n.set.c.toNat : Int), AW (↑n.set.d.toNat : Int), AI n.mn, AI n.mx, ks]]) (cs := [AI n.kind, AW (↑n.set.a.toNat : Int), AW (↑n.set.b.toNat : Int), AW (↑n.set.c.toNat : Int), AW (↑n.set.d.toNat : Int), AI n.mn, AI n.mx, ks]) (x := AI n.mx) E.blk_last (by kernel_rfl)), .b 4 6 (beq_false_of_ne h2), .m 5 1 (E.load_ok (C := cfg m) (t := 3) (b := hp.length) (off := 0) (hp := hp ++ [BC [AI n.kind, AW (↑n.set.a.toNat : Int), AW (↑n.set.b.toNat : Int), AW (↑n.set.c.toNat : Int), AW (↑n.set.d.toNat : Int), AI n.mn, AI n.mx, ks]]) (cs := [AI n.kind, AW (↑n.set.a.toNat : Int), AW (↑n.set.b.toNat : Int), AW (↑n.set.c.toNat : Int), AW (↑n.set.d.toNat : Int), AI n.mn, AI n.mx, ks]) (x := AI n.kind) E.blk_last (by kernel_rfl)), .b 6 0 (beq_false_of_ne ((show ¬n.kind = 0 from (by omega)))), .b 7 0 (beq_false_of_ne ((show ¬n.kind = 1 from (by omega)))), .b 8 0 (beq_false_of_ne ((show ¬n.kind = 2 from (by omega)))), .b 9 0 (beq_false_of_ne ((show ¬n.kind = 3 from (by omega)))), .b 11 0 (beq_false_of_ne ((show ¬n.kind = 4 from (by omega)))), .b 12 0 (beq_false_of_ne ((show ¬n.kind = 5 from (by omega)))), .b 14 0 (beq_iff_eq.2 (k1)), .c 15 1 (E.S4.kd_ok (m := m) (fl := hp.length) (rb := hp.length) (hp := hp ++ [BC [AI n.kind, AW (↑n.set.a.toNat : Int), AW (↑n.set.b.toNat : Int), AW (↑n.set.c.toNat : Int), AW (↑n.set.d.toNat : Int), AI n.mn, AI n.mx, ks]]) (n := n) (a := 1) (b := 1) E.blk_last hk (by omega) (by omega)), .m 15 4 (E.load_ok (C := cfg m) (t := 3) (b := hp.length) (off := 5) (hp := hp ++ [BC [AI n.kind, AW (↑n.set.a.toNat : Int), AW (↑n.set.b.toNat : Int), AW (↑n.set.c.toNat : Int), AW (↑n.set.d.toNat : Int), AI n.mn, AI n.mx, ks]]) (cs := [AI n.kind, AW (↑n.set.a.toNat : Int), AW (↑n.set.b.toNat : Int), AW (↑n.set.c.toNat : Int), AW (↑n.set.d.toNat : Int), AI n.mn, AI n.mx, ks]) (x := AI n.mn) E.blk_last (by kernel_rfl)), .b 15 5 (decide_eq_true (k3)), .m 15 9 (E.load_ok (C := cfg m) (t := 3) (b := hp.length) (off := 5) (hp := hp ++ [BC [AI n.kind, AW (↑n.set.a.toNat : Int), AW (↑n.set.b.toNat : Int), AW (↑n.set.c.toNat : Int), AW (↑n.set.d.toNat : Int), AI n.mn, AI n.mx, ks]]) (cs := [AI n.kind, AW (↑n.set.a.toNat : Int), AW (↑n.set.b.toNat : Int), AW (↑n.set.c.toNat : Int), AW (↑n.set.d.toNat : Int), AI n.mn, AI n.mx, ks]) (x := AI n.mn) E.blk_last (by kernel_rfl)), .b 15 10 (decide_eq_true (k4)), .m 15 14 (E.load_ok (C := cfg m) (t := 3) (b := hp.length) (off := 6) (hp := hp ++ [BC [AI n.kind, AW (↑n.set.a.toNat : Int), AW (↑n.set.b.toNat : Int), AW (↑n.set.c.toNat : Int), AW (↑n.set.d.toNat : Int), AI n.mn, AI n.mx, ks]]) (cs := [AI n.kind, AW (↑n.set.a.toNat : Int), AW (↑n.set.b.toNat : Int), AW (↑n.set.c.toNat : Int), AW (↑n.set.d.toNat : Int), AI n.mn, AI n.mx, ks]) (x := AI n.mx) E.blk_last (by kernel_rfl)), .b 15 15 (beq_false_of_ne (k6)), .m 15 18 (E.load_ok (C := cfg m) (t := 3) (b := hp.length) (off := 6) (hp := hp ++ [BC [AI n.kind, AW (↑n.set.a.toNat : Int), AW (↑n.set.b.toNat : Int), AW (↑n.set.c.toNat : Int), AW (↑n.set.d.toNat : Int), AI n.mn, AI n.mx, ks]]) (cs := [AI n.kind, AW (↑n.set.a.toNat : Int), AW (↑n.set.b.toNat : Int), AW (↑n.set.c.toNat : Int), AW (↑n.set.d.toNat : Int), AI n.mn, AI n.mx, ks]) (x := AI n.mx) E.blk_last (by kernel_rfl)), .m 15 20 (E.load_ok (C := cfg m) (t := 3) (b := hp.length) (off := 5) (hp := hp ++ [BC [AI n.kind, AW (↑n.set.a.toNat : Int), AW (↑n.set.b.toNat : Int), AW (↑n.set.c.toNat : Int), AW (↑n.set.d.toNat : Int), AI n.mn, AI n.mx, ks]]) (cs := [AI n.kind, AW (↑n.set.a.toNat : Int), AW (↑n.set.b.toNat : Int), AW (↑n.set.c.toNat : Int), AW (↑n.set.d.toNat : Int), AI n.mn, AI n.mx, ks]) (x := AI n.mn) E.blk_last (by kernel_rfl)), .b 15 21 (decide_eq_true (k7)), .m 15 24 (E.load_ok (C := cfg m) (t := 3) (b := hp.length) (off := 6) (hp := hp ++ [BC [AI n.kind, AW (↑n.set.a.toNat : Int), AW (↑n.set.b.toNat : Int), AW (↑n.set.c.toNat : Int), AW (↑n.set.d.toNat : Int), AI n.mn, AI n.mx, ks]]) (cs := [AI n.kind, AW (↑n.set.a.toNat : Int), AW (↑n.set.b.toNat : Int), AW (↑n.set.c.toNat : Int), AW (↑n.set.d.toNat : Int), AI n.mn, AI n.mx, ks]) (x := AI n.mx) E.blk_last (by kernel_rfl)), .b 15 25 (decide_eq_true (k8))] (by kernel_rfl) (E.tlP (by kernel_rfl) rfl (E.shutT (v := AV.bool true) (v' := AV.bool true) (by kernel_rfl))) rfl
  · exact E.evX (AV.bool true) (hp ++ [BC [AI n.kind, AW (↑n.set.a.toNat : Int), AW (↑n.set.b.toNat : Int), AW (↑n.set.c.toNat : Int), AW (↑n.set.d.toNat : Int), AI n.mn, AI n.mx, ks]]) [.m 2 1 (E.load_ok (C := cfg m) (t := 34) (b := hp.length) (off := 7) (hp := hp ++ [BC [AI n.kind, AW (↑n.set.a.toNat : Int), AW (↑n.set.b.toNat : Int), AW (↑n.set.c.toNat : Int), AW (↑n.set.d.toNat : Int), AI n.mn, AI n.mx, ks]]) (cs := [AI n.kind, AW (↑n.set.a.toNat : Int), AW (↑n.set.b.toNat : Int), AW (↑n.set.c.toNat : Int), AW (↑n.set.d.toNat : Int), AI n.mn, AI n.mx, ks]) (x := ks) E.blk_last (by kernel_rfl)), .c 2 2 (hr (hp.length) (hp ++ [BC [AI n.kind, AW (↑n.set.a.toNat : Int), AW (↑n.set.b.toNat : Int), AW (↑n.set.c.toNat : Int), AW (↑n.set.d.toNat : Int), AI n.mn, AI n.mx, ks]])), .m 2 5 (E.load_ok (C := cfg m) (t := 3) (b := hp.length) (off := 0) (hp := hp ++ [BC [AI n.kind, AW (↑n.set.a.toNat : Int), AW (↑n.set.b.toNat : Int), AW (↑n.set.c.toNat : Int), AW (↑n.set.d.toNat : Int), AI n.mn, AI n.mx, ks]]) (cs := [AI n.kind, AW (↑n.set.a.toNat : Int), AW (↑n.set.b.toNat : Int), AW (↑n.set.c.toNat : Int), AW (↑n.set.d.toNat : Int), AI n.mn, AI n.mx, ks]) (x := AI n.kind) E.blk_last (by kernel_rfl)), .b 2 6 (beq_false_of_ne ((show ¬n.kind = 1 from (by omega)))), .m 2 8 (E.load_ok (C := cfg m) (t := 24) (b := hp.length) (off := 1) (hp := hp ++ [BC [AI n.kind, AW (↑n.set.a.toNat : Int), AW (↑n.set.b.toNat : Int), AW (↑n.set.c.toNat : Int), AW (↑n.set.d.toNat : Int), AI n.mn, AI n.mx, ks]]) (cs := [AI n.kind, AW (↑n.set.a.toNat : Int), AW (↑n.set.b.toNat : Int), AW (↑n.set.c.toNat : Int), AW (↑n.set.d.toNat : Int), AI n.mn, AI n.mx, ks]) (x := AV.agg [AW (↑n.set.a.toNat : Int), AW (↑n.set.b.toNat : Int), AW (↑n.set.c.toNat : Int), AW (↑n.set.d.toNat : Int)]) E.blk_last (by kernel_rfl)), .vb 2 10 (E.neW4z (C := cfg m) (t := 24) (cst := false) (s := n.set) (by kernel_rfl)) (congrArg not (decide_eq_true (k2))), .m 4 1 (E.load_ok (C := cfg m) (t := 3) (b := hp.length) (off := 5) (hp := hp ++ [BC [AI n.kind, AW (↑n.set.a.toNat : Int), AW (↑n.set.b.toNat : Int), AW (↑n.set.c.toNat : Int), AW (↑n.set.d.toNat : Int), AI n.mn, AI n.mx, ks]]) (cs := [AI n.kind, AW (↑n.set.a.toNat : Int), AW (↑n.set.b.toNat : Int), AW (↑n.set.c.toNat : Int), AW (↑n.set.d.toNat : Int), AI n.mn, AI n.mx, ks]) (x := AI n.mn) E.blk_last (by kernel_rfl)), .b 4 2 (beq_false_of_ne h1), .m 5 1 (E.load_ok (C := cfg m) (t := 3) (b := hp.length) (off := 0) (hp := hp ++ [BC [AI n.kind, AW (↑n.set.a.toNat : Int), AW (↑n.set.b.toNat : Int), AW (↑n.set.c.toNat : Int), AW (↑n.set.d.toNat : Int), AI n.mn, AI n.mx, ks]]) (cs := [AI n.kind, AW (↑n.set.a.toNat : Int), AW (↑n.set.b.toNat : Int), AW (↑n.set.c.toNat : Int), AW (↑n.set.d.toNat : Int), AI n.mn, AI n.mx, ks]) (x := AI n.kind) E.blk_last (by kernel_rfl)), .b 6 0 (beq_false_of_ne ((show ¬n.kind = 0 from (by omega)))), .b 7 0 (beq_false_of_ne ((show ¬n.kind = 1 from (by omega)))), .b 8 0 (beq_false_of_ne ((show ¬n.kind = 2 from (by omega)))), .b 9 0 (beq_false_of_ne ((show ¬n.kind = 3 from (by omega)))), .b 11 0 (beq_false_of_ne ((show ¬n.kind = 4 from (by omega)))), .b 12 0 (beq_false_of_ne ((show ¬n.kind = 5 from (by omega)))), .b 14 0 (beq_iff_eq.2 (k1)), .c 15 1 (E.S4.kd_ok (m := m) (fl := hp.length) (rb := hp.length) (hp := hp ++ [BC [AI n.kind, AW (↑n.set.a.toNat : Int), AW (↑n.set.b.toNat : Int), AW (↑n.set.c.toNat : Int), AW (↑n.set.d.toNat : Int), AI n.mn, AI n.mx, ks]]) (n := n) (a := 1) (b := 1) E.blk_last hk (by omega) (by omega)), .m 15 4 (E.load_ok (C := cfg m) (t := 3) (b := hp.length) (off := 5) (hp := hp ++ [BC [AI n.kind, AW (↑n.set.a.toNat : Int), AW (↑n.set.b.toNat : Int), AW (↑n.set.c.toNat : Int), AW (↑n.set.d.toNat : Int), AI n.mn, AI n.mx, ks]]) (cs := [AI n.kind, AW (↑n.set.a.toNat : Int), AW (↑n.set.b.toNat : Int), AW (↑n.set.c.toNat : Int), AW (↑n.set.d.toNat : Int), AI n.mn, AI n.mx, ks]) (x := AI n.mn) E.blk_last (by kernel_rfl)), .b 15 5 (decide_eq_true (k3)), .m 15 9 (E.load_ok (C := cfg m) (t := 3) (b := hp.length) (off := 5) (hp := hp ++ [BC [AI n.kind, AW (↑n.set.a.toNat : Int), AW (↑n.set.b.toNat : Int), AW (↑n.set.c.toNat : Int), AW (↑n.set.d.toNat : Int), AI n.mn, AI n.mx, ks]]) (cs := [AI n.kind, AW (↑n.set.a.toNat : Int), AW (↑n.set.b.toNat : Int), AW (↑n.set.c.toNat : Int), AW (↑n.set.d.toNat : Int), AI n.mn, AI n.mx, ks]) (x := AI n.mn) E.blk_last (by kernel_rfl)), .b 15 10 (decide_eq_true (k4)), .m 15 14 (E.load_ok (C := cfg m) (t := 3) (b := hp.length) (off := 6) (hp := hp ++ [BC [AI n.kind, AW (↑n.set.a.toNat : Int), AW (↑n.set.b.toNat : Int), AW (↑n.set.c.toNat : Int), AW (↑n.set.d.toNat : Int), AI n.mn, AI n.mx, ks]]) (cs := [AI n.kind, AW (↑n.set.a.toNat : Int), AW (↑n.set.b.toNat : Int), AW (↑n.set.c.toNat : Int), AW (↑n.set.d.toNat : Int), AI n.mn, AI n.mx, ks]) (x := AI n.mx) E.blk_last (by kernel_rfl)), .b 15 15 (beq_false_of_ne (k6)), .m 15 18 (E.load_ok (C := cfg m) (t := 3) (b := hp.length) (off := 6) (hp := hp ++ [BC [AI n.kind, AW (↑n.set.a.toNat : Int), AW (↑n.set.b.toNat : Int), AW (↑n.set.c.toNat : Int), AW (↑n.set.d.toNat : Int), AI n.mn, AI n.mx, ks]]) (cs := [AI n.kind, AW (↑n.set.a.toNat : Int), AW (↑n.set.b.toNat : Int), AW (↑n.set.c.toNat : Int), AW (↑n.set.d.toNat : Int), AI n.mn, AI n.mx, ks]) (x := AI n.mx) E.blk_last (by kernel_rfl)), .m 15 20 (E.load_ok (C := cfg m) (t := 3) (b := hp.length) (off := 5) (hp := hp ++ [BC [AI n.kind, AW (↑n.set.a.toNat : Int), AW (↑n.set.b.toNat : Int), AW (↑n.set.c.toNat : Int), AW (↑n.set.d.toNat : Int), AI n.mn, AI n.mx, ks]]) (cs := [AI n.kind, AW (↑n.set.a.toNat : Int), AW (↑n.set.b.toNat : Int), AW (↑n.set.c.toNat : Int), AW (↑n.set.d.toNat : Int), AI n.mn, AI n.mx, ks]) (x := AI n.mn) E.blk_last (by kernel_rfl)), .b 15 21 (decide_eq_true (k7)), .m 15 24 (E.load_ok (C := cfg m) (t := 3) (b := hp.length) (off := 6) (hp := hp ++ [BC [AI n.kind, AW (↑n.set.a.toNat : Int), AW (↑n.set.b.toNat : Int), AW (↑n.set.c.toNat : Int), AW (↑n.set.d.toNat : Int), AI n.mn, AI n.mx, ks]]) (cs := [AI n.kind, AW (↑n.set.a.toNat : Int), AW (↑n.set.b.toNat : Int), AW (↑n.set.c.toNat : Int), AW (↑n.set.d.toNat : Int), AI n.mn, AI n.mx, ks]) (x := AI n.mx) E.blk_last (by kernel_rfl)), .b 15 25 (decide_eq_true (k8))] (by kernel_rfl) (E.tlP (by kernel_rfl) rfl (E.shutT (v := AV.bool true) (v' := AV.bool true) (by kernel_rfl))) rfl

end Go.Proofs.YtanopbolgfcojaaDoor.E.S4

/- Nodes that are the same: the walk. -/
namespace Go.Proofs.YtanopbolgfcojaaDoor.E.S4
open Go Go.Proofs E E.R
abbrev fnS : AV := .fn (.func 21) [] []
abbrev eqSt (k1 k2 : AV) (N i : Nat) : List TV := [J, .v k2, .v fnS] ++ List.replicate 12 J ++ [.v k1, .v (AI N), .v (AI i)] ++ List.replicate 14 J
theorem eq_n {m : Int} {fl N i : Nat} {hp : List Blk} {k1 k2 : AV} {vs ws : List AV} {n p : Node} {a b : AV} (h1 : IsSl 8 k1 vs) (h2 : IsSl 8 k2 ws) (hv : vs[i]? = some (nAV n a)) (hw : ws[i]? = some (nAV p b)) (hi : i < N) (hN : N < 100000) (hc : ∀ fl h, evI (cfg m) fl 21 [nAV n a, nAV p b] h = some (.bool true, h)) : LoopS (cfg m) fl 32 (bodyAt (cfg m) 32 4) 4 ⟨eqSt k1 k2 N i, hp⟩ ⟨eqSt k1 k2 N (i + 1), hp⟩ := by
  exact E.loopStepS (St.mk [J, TV.v k2, TV.v (AV.fn (Fn.func 21) [] []), J, J, J, J, J, J, J, J, J, J, J, J, TV.v k1, TV.v (AI (↑N : Int)), TV.v (AI ((↑i : Int) + 1)), J, J, J, J, J, J, J, J, J, J, J, J, J, J] hp) [.b 4 0 (decide_eq_true ((show (↑i : Int) < (↑N : Int) from (by omega)))), .a 5 1 (E.indexAddr_sl (C := cfg m) (t := 34) (n := (↑i : Int)) h1 (by kernel_rfl) (by omega) hv), .a 6 2 (E.indexAddr_sl (C := cfg m) (t := 34) (n := (↑i : Int)) h2 (by kernel_rfl) (by omega) hw), .c 7 3 (hc (fl) (hp)), .w 9 0 IntKind.i64 ((↑i : Int) + 1) (E.wrap_i64' (by omega))] (by kernel_rfl) rfl

theorem eq_x {m : Int} {fl N i : Nat} {hp : List Blk} {k1 k2 : AV} (hi : N ≤ i) : LoopI (cfg m) fl 32 (bodyAt (cfg m) 32 4) 4 ⟨eqSt k1 k2 N i, hp⟩ (.exit 0) ⟨List.replicate 32 J, hp⟩ := by
  exact E.loopEndC (.exit 0) (St.mk [J, J, J, J, J, J, J, J, J, J, J, J, J, J, J, J, J, J, J, J, J, J, J, J, J, J, J, J, J, J, J, J] hp) [.b 4 0 (decide_eq_false ((show ¬(↑i : Int) < (↑N : Int) from (by omega))))] (by kernel_rfl) (fun h => by cases h) rfl

theorem eqf {m : Int} {fl : Nat} {hp : List Blk} {k1 k2 : AV} {vs ws : List AV} (h1 : IsSl 8 k1 vs) (h2 : IsSl 8 k2 ws) (hl : vs.length = ws.length) (hN : vs.length < 100000) (hlp : LoopI (cfg m) hp.length 32 (bodyAt (cfg m) 32 4) 4 ⟨eqSt k1 k2 vs.length 0, hp⟩ (.exit 0) ⟨List.replicate 32 J, hp⟩) : evI (cfg m) fl 32 [k1, k2, fnS] hp = some (.bool true, hp) := by
  exact E.evX (AV.bool true) (hp) [.m 1 1 (E.len_sl (C := cfg m) (t := 34) (ts' := []) (fl := hp.length) (ar := false) (hp := hp) h1 (by kernel_rfl)), .m 1 3 (E.len_sl (C := cfg m) (t := 34) (ts' := []) (fl := hp.length) (ar := false) (hp := hp) h2 (by kernel_rfl)), .b 1 4 (bne_eq_false_iff_eq.2 ((show (↑vs.length : Int) = (↑ws.length : Int) from (by omega)))), .m 3 1 (E.len_sl (C := cfg m) (t := 34) (ts' := []) (fl := hp.length) (ar := false) (hp := hp) h1 (by kernel_rfl)), .l 4 hlp] (by kernel_rfl) (E.tlP (by kernel_rfl) rfl (E.shutT (v := AV.bool true) (v' := AV.bool true) (by kernel_rfl))) rfl

theorem eqW4s {C : Cfg} {t : TypeId} {s : W4} (ht : arr4 C t = true) : binE C .eql t false (.agg [wAV s.a, wAV s.b, wAV s.c, wAV s.d]) (.agg [wAV s.a, wAV s.b, wAV s.c, wAV s.d]) = some (.bool true) := by
  rw [eqW4 ht]; simp
theorem sm {m : Int} {fl : Nat} {hp : List Blk} {n : Node} {k1 k2 : AV} (h : ∀ fl h, evI (cfg m) fl 32 [k1, k2, fnS] h = some (.bool true, h)) : evI (cfg m) fl 21 [nAV n k1, nAV n k2] hp = some (.bool true, hp) := by
  exact E.evX (AV.bool true) (hp) [.b 1 4 (beq_iff_eq.2 ((show n.kind = n.kind from rfl))), .v 1 10 (E.S4.eqW4s (C := cfg m) (t := 24) (s := n.set) (by kernel_rfl)), .b 1 17 (beq_iff_eq.2 ((show n.mn = n.mn from rfl))), .b 1 24 (beq_iff_eq.2 ((show n.mx = n.mx from rfl))), .c 1 31 (h (hp.length) (hp))] (by kernel_rfl) (E.tlP (by kernel_rfl) rfl (E.shutT (v := AV.bool true) (v' := AV.bool true) (by kernel_rfl))) rfl
end Go.Proofs.YtanopbolgfcojaaDoor.E.S4

/- Nodes that may be, and that are the same, by their model. -/
namespace Go.Proofs.YtanopbolgfcojaaDoor.E.S4
open Go Go.Proofs E E.R
/-- what a reader makes: the top -/
inductive Shape : Node → Prop
  | empty : Shape (.mk 0 W4.zero 0 0 [])
  | one (s : W4) (h : s ≠ W4.zero) : Shape (.mk 1 s 0 0 [])
  | beg : Shape (.mk 2 W4.zero 0 0 [])
  | fin : Shape (.mk 3 W4.zero 0 0 [])
  | cat (l : List Node) (h : 2 ≤ l.length) (hk : ∀ k ∈ l, k.kind ≠ 0 ∧ k.kind ≠ 4) : Shape (.mk 4 W4.zero 0 0 l)
  | alt (l : List Node) (h : 2 ≤ l.length) (hk : ∀ k ∈ l, k.kind ≠ 5) : Shape (.mk 5 W4.zero 0 0 l)
  | rep (a b : Int) (q : Node) (h0 : 0 ≤ a) (h1 : a ≤ 20) (h2 : b = -1 ∨ a ≤ b ∧ b ≤ 20) : Shape (.mk 6 W4.zero a b [q])
/-- what a reader makes -/
def Norm : Nat → Node → Prop
  | 0, _ => False
  | d + 1, n => Shape n ∧ ∀ k ∈ n.kids, Norm d k
theorem Norm.mono : ∀ {d e : Nat} {n : Node}, Norm d n → d ≤ e → Norm e n
  | 0, _, _, h, _ => h.elim
  | d + 1, 0, _, _, h => by omega
  | d + 1, e + 1, _, h, he => ⟨h.1, fun k hk => Norm.mono (h.2 k hk) (by omega)⟩
theorem Norm.dep : ∀ {d : Nat} {n : Node}, Norm d n → Dep d n
  | 0, _, h => h
  | d + 1, _, h => fun k hk => Norm.dep (h.2 k hk)
theorem Norm.fine : ∀ {d : Nat} {n : Node}, Norm d n → Fine d n
  | 0, _, h => h
  | d + 1, n, h => by
    refine ⟨?_, ?_, ?_, fun k hk => Norm.fine (h.2 k hk)⟩
    · intro h6
      cases h.1 with
      | rep => rfl
      | _ => simp [Node.kind] at h6
    · cases h.1 <;> simp only [Node.mn] <;> omega
    · cases h.1 <;> simp only [Node.mx] <;> omega
theorem right_ok {m : Int} : ∀ (d : Nat) {fl : Nat} {n : Node} {ks : AV} {hp : List Blk}, Norm d n → KidsR n.kids ks → n.lw < 100000 → evI (cfg m) fl 20 [nAV n ks] hp = some (.bool true, hp)
  | 0, _, _, _, _, h, _, _ => h.elim
  | d + 1, fl, n, ks, hp, hd, hk, hw => by
    obtain ⟨vs, hs, hR⟩ := hk
    have hl := hR.1
    have hlw := n.lw_eq
    have h1 := lws_len (l := n.kids)
    have hnv : vs.length < 100000 := by omega
    have hL : ∀ (hp : List Blk) (fl : Nat) (r : List Node) (i : Nat), n.kids.drop i = r → LoopI (cfg m) fl 48 (bodyAt (cfg m) 48 2) 2 ⟨rxSt ks vs.length i, hp⟩ (.exit 0) ⟨List.replicate 19 J, hp⟩ := by
      intro hp fl r
      induction r with
      | nil =>
        intro i hr
        have : n.kids.length ≤ i := by simpa using hr
        exact rx_x (by omega)
      | cons q r ih =>
        intro i hr
        have hq : n.kids[i]? = some q := by have := congrArg (·[0]?) hr; simpa using this
        have hi : i < n.kids.length := (List.getElem?_eq_some_iff.1 hq).1
        have hr' : n.kids.drop (i + 1) = r := by rw [← List.drop_drop, hr]; rfl
        obtain ⟨kq, hv, kvs, k1, k2⟩ := hR.get hq
        have hmem := List.mem_of_getElem? hq
        have hc := fun fl hp => right_ok (m := m) d (fl := fl) (hp := hp) (hd.2 q hmem) ⟨kvs, k1, k2⟩ (by have := lw_mem hmem; omega)
        exact rx_n hs hv (by omega) hnv hc _ _ (ih (i + 1) hr')
    have h48 : ∀ fl h, evI (cfg m) fl 48 [ks, fnR] h = some (.int .i64 (-1), h) := fun fl h => rx_ok hs hnv (hL h h.length n.kids 0 rfl)
    have h30 : ∀ fl h, evI (cfg m) fl 30 [ks, fnR] h = some (.bool false, h) := fun fl h => rc_ok h48
    cases hd.1 with
    | empty => exact rt_0 hs h30 rfl rfl rfl rfl (by simpa [Node.kids] using hl)
    | one s h => exact rt_1 (n := .mk 1 s 0 0 []) hs h30 rfl h rfl rfl (by simpa [Node.kids] using hl)
    | beg => exact rt_2 (n := .mk 2 W4.zero 0 0 []) hs h30 rfl rfl rfl rfl (by simpa [Node.kids] using hl)
    | fin => exact rt_3 (n := .mk 3 W4.zero 0 0 []) hs h30 rfl rfl rfl rfl (by simpa [Node.kids] using hl)
    | cat l h _ => exact rt_4 (n := .mk 4 W4.zero 0 0 l) hs h30 rfl rfl rfl rfl (by rw [hl]; exact h) (by omega)
    | alt l h _ => exact rt_5 (n := .mk 5 W4.zero 0 0 l) hs h30 rfl rfl rfl rfl (by rw [hl]; exact h) (by omega)
    | rep a b q g0 g1 g2 =>
      rcases g2 with g2 | ⟨g2, g3⟩
      · exact rt_6a (n := .mk 6 W4.zero a b [q]) hs h30 rfl rfl g0 g1 (by simpa [Node.kids] using hl) g2
      · exact rt_6b (n := .mk 6 W4.zero a b [q]) hs h30 rfl rfl g0 g1 (by simpa [Node.kids] using hl) (show ¬ b = -1 by omega) g2 g3
theorem same_ok {m : Int} : ∀ (d : Nat) {fl : Nat} {n : Node} {k1 k2 : AV} {hp : List Blk}, Dep d n → KidsR n.kids k1 → KidsR n.kids k2 → n.lw < 100000 → evI (cfg m) fl 21 [nAV n k1, nAV n k2] hp = some (.bool true, hp)
  | 0, _, _, _, _, _, h, _, _, _ => h.elim
  | d + 1, fl, n, k1, k2, hp, hd, ha, hb, hw => by
    obtain ⟨vs, hs, hR⟩ := ha
    obtain ⟨ws, hs', hR'⟩ := hb
    have hl := hR.1
    have hl' := hR'.1
    have hlw := n.lw_eq
    have h1 := lws_len (l := n.kids)
    have hnv : vs.length < 100000 := by omega
    have hL : ∀ (hp : List Blk) (fl : Nat) (r : List Node) (i : Nat), n.kids.drop i = r → LoopI (cfg m) fl 32 (bodyAt (cfg m) 32 4) 4 ⟨eqSt k1 k2 vs.length i, hp⟩ (.exit 0) ⟨List.replicate 32 J, hp⟩ := by
      intro hp fl r
      induction r with
      | nil =>
        intro i hr
        have : n.kids.length ≤ i := by simpa using hr
        exact eq_x (by omega)
      | cons q r ih =>
        intro i hr
        have hq : n.kids[i]? = some q := by have := congrArg (·[0]?) hr; simpa using this
        have hi : i < n.kids.length := (List.getElem?_eq_some_iff.1 hq).1
        have hr' : n.kids.drop (i + 1) = r := by rw [← List.drop_drop, hr]; rfl
        obtain ⟨kq, hv, hkq⟩ := hR.get hq
        obtain ⟨kq', hv', hkq'⟩ := hR'.get hq
        have hmem := List.mem_of_getElem? hq
        have hc := fun fl hp => same_ok (m := m) d (fl := fl) (hp := hp) (hd q hmem) hkq hkq' (by have := lw_mem hmem; omega)
        exact eq_n hs hs' hv hv' (by omega) hnv hc _ _ (ih (i + 1) hr')
    exact sm fun fl h => eqf hs hs' (by omega) hnv (hL h h.length n.kids 0 rfl)
end Go.Proofs.YtanopbolgfcojaaDoor.E.S4

/- Sets of bytes, put and read. -/
namespace Go.Proofs.YtanopbolgfcojaaDoor.E.R
theorem or_has (s t : W4) (x : Nat) : (E.S4.W4.or s t).has x = (s.has x || t.has x) := by
  unfold W4.has W4.word E.S4.W4.or
  split <;> simp
theorem zero_has (x : Nat) : W4.zero.has x = false := by
  unfold W4.has W4.word W4.zero
  split <;> simp
end Go.Proofs.YtanopbolgfcojaaDoor.E.R
namespace Go.Proofs.YtanopbolgfcojaaDoor.E.S4
open Go Go.Proofs E E.R
theorem single_has (c : UInt8) (x : Nat) (hx : x < 256) : (W4.zero.with c c).has x = decide (x = c.toNat) := by
  rw [W4.with_has _ _ _ _ hx, zero_has, Bool.false_or]
  have : (c.toNat ≤ x ∧ x ≤ c.toNat) ↔ x = c.toNat := by omega
  simp only [this]
theorem with_ne {a b : UInt8} (h : a.toNat ≤ b.toNat) : W4.zero.with a b ≠ W4.zero := fun e => by
  have h1 := W4.with_has W4.zero a b a.toNat a.toNat_lt
  rw [e, zero_has] at h1
  simp [h] at h1
theorem runEnd_has {s : W4} : ∀ (f k : Nat), s.has k = true → ∀ x, k ≤ x → x ≤ runEnd s f k → s.has x = true
  | 0, k, h, x, h1, h2 => by
    simp only [runEnd] at h2
    have : x = k := by omega
    rw [this]; exact h
  | f + 1, k, h, x, h1, h2 => by
    unfold runEnd at h2
    split at h2
    · rename_i h3
      by_cases hx : x = k
      · rw [hx]; exact h
      · exact runEnd_has f (k + 1) h3.2 x (by omega) h2
    · have : x = k := by omega
      rw [this]; exact h
theorem runs_ord {s : W4} : ∀ (f k : Nat), ∀ r ∈ runsF s f k, k ≤ r.1 ∧ r.1 ≤ r.2 ∧ r.2 < 256
  | 0, k, r, h => by simp [runsF] at h
  | f + 1, k, r, h => by
    unfold runsF at h
    split at h
    · rename_i hk
      have hb := runEnd_bd s 256 k
      split at h
      · rcases List.mem_cons.1 h with rfl | h
        · exact ⟨Nat.le_refl _, hb.1, hb.2 hk⟩
        · have := runs_ord f _ r h; exact ⟨by omega, this.2⟩
      · have := runs_ord f _ r h; exact ⟨by omega, this.2⟩
    · cases h
theorem runs_has {s : W4} : ∀ (f k : Nat), 256 ≤ f + k → ∀ x, k ≤ x → x < 256 → (s.has x = true ↔ ∃ r ∈ runsF s f k, r.1 ≤ x ∧ x ≤ r.2)
  | 0, k, h, x, h1, h2 => by omega
  | f + 1, k, h, x, h1, h2 => by
    unfold runsF
    rw [if_pos (by omega)]
    have hb := runEnd_bd s 256 k
    by_cases hk : s.has k = true
    · rw [if_pos hk]
      by_cases hx : x ≤ runEnd s 256 k
      · exact ⟨fun _ => ⟨_, List.mem_cons_self .., h1, hx⟩, fun _ => runEnd_has 256 k hk x h1 hx⟩
      · rw [runs_has f (runEnd s 256 k + 1) (by omega) x (by omega) h2]
        constructor
        · rintro ⟨r, hr, h3⟩; exact ⟨r, List.mem_cons_of_mem _ hr, h3⟩
        · rintro ⟨r, hr, h3⟩
          rcases List.mem_cons.1 hr with rfl | hr
          · exact absurd h3.2 hx
          · exact ⟨r, hr, h3⟩
    · rw [if_neg hk]
      by_cases hx : x = k
      · subst hx
        constructor
        · intro h; exact absurd h hk
        · rintro ⟨r, hr, h3⟩
          have := runs_ord f _ r hr
          omega
      · exact runs_has f (k + 1) (by omega) x (by omega) h2
/-- all of some runs -/
def unionR (acc : W4) : List (Nat × Nat) → W4
  | [] => acc
  | r :: l => unionR (W4.or acc (W4.zero.with (UInt8.ofNat r.1) (UInt8.ofNat r.2))) l
theorem u8n {n : Nat} (h : n < 256) : (UInt8.ofNat n).toNat = n := by rw [UInt8.toNat_ofNat']; exact Nat.mod_eq_of_lt h
theorem unionR_has : ∀ (l : List (Nat × Nat)) (acc : W4), (∀ r ∈ l, r.1 < 256 ∧ r.2 < 256) → ∀ x, x < 256 → ((unionR acc l).has x = true ↔ acc.has x = true ∨ ∃ r ∈ l, r.1 ≤ x ∧ x ≤ r.2)
  | [], acc, _, x, _ => by simp [unionR]
  | r :: l, acc, h, x, hx => by
    have hr := h r (by simp)
    unfold unionR
    rw [unionR_has l _ (fun q hq => h q (by simp [hq])) x hx, or_has, W4.with_has _ _ _ _ hx, zero_has, u8n hr.1, u8n hr.2]
    simp only [Bool.false_or, Bool.or_eq_true, decide_eq_true_eq, List.mem_cons, exists_eq_or_imp]
    rw [or_assoc]
theorem union_runs (s : W4) : unionR W4.zero (runsF s 256 0) = s := by
  apply W4.ext
  intro x hx
  have h1 := unionR_has (runsF s 256 0) W4.zero (fun r hr => by have := runs_ord 256 0 r hr; omega) x hx
  have h2 := runs_has (s := s) 256 0 (by omega) x (by omega) hx
  rw [zero_has] at h1
  rw [Bool.eq_iff_iff, h1, h2]
  simp
theorem cnt_one {s : W4} {c : Nat} (h : ∀ x, x < 256 → s.has x = decide (x = c)) : ∀ n, n ≤ 256 → W4.cntTo s n = if c < n then 1 else 0
  | 0, _ => by simp [W4.cntTo]
  | n + 1, hn => by
    unfold W4.cntTo
    rw [cnt_one h n (by omega), h n (by omega)]
    by_cases h1 : n = c
    · subst h1; simp
    · simp only [h1, decide_false, Bool.false_eq_true, if_false]
      by_cases h2 : c < n
      · rw [if_pos h2, if_pos (by omega)]
      · rw [if_neg h2, if_neg (by omega)]
theorem cnt_single (c : UInt8) : W4.cntTo (W4.zero.with c c) 256 = 1 := by
  rw [cnt_one (c := c.toNat) (fun x hx => single_has c x hx) 256 (Nat.le_refl _), if_pos c.toNat_lt]
theorem cnt_two {s : W4} : ∀ n, (∃ x y, x < y ∧ y < n ∧ s.has x = true ∧ s.has y = true) → 2 ≤ W4.cntTo s n
  | 0, ⟨x, y, _, h, _⟩ => by omega
  | n + 1, ⟨x, y, h1, h2, h3, h4⟩ => by
    unfold W4.cntTo
    by_cases hy : y = n
    · subst hy
      rw [if_pos h4]
      have : 1 ≤ W4.cntTo s y := by
        have : ∀ n, x < n → 1 ≤ W4.cntTo s n := fun n => by
          induction n with
          | zero => intro h; omega
          | succ n ih =>
            intro h
            unfold W4.cntTo
            by_cases hx : x = n
            · subst hx; rw [if_pos h3]; omega
            · have := ih (by omega); omega
        exact this y h1
      omega
    · have := cnt_two n ⟨x, y, h1, by omega, h3, h4⟩
      omega
/-- a set of one byte -/
theorem single_of {s : W4} (h : W4.cntTo s 256 = 1) : ∃ c : UInt8, s = W4.zero.with c c := by
  obtain ⟨k, hk, hh⟩ := cnt_pos (s := s) 256 (by omega)
  refine ⟨UInt8.ofNat k, W4.ext fun x hx => ?_⟩
  rw [single_has _ _ hx, u8n hk]
  by_cases hxk : x = k
  · subst hxk; simp [hh]
  · have : ¬ s.has x = true := fun g => by
      have h2 : 2 ≤ W4.cntTo s 256 := by
        rcases Nat.lt_or_gt_of_ne hxk with h3 | h3
        · exact cnt_two 256 ⟨x, k, h3, hk, g, hh⟩
        · exact cnt_two 256 ⟨k, x, h3, hx, hh, g⟩
      omega
    simp [hxk, this]
theorem runs_single (c : UInt8) : ∃ e l, runsF (W4.zero.with c c) 256 0 = (c.toNat, e) :: l := by
  have hne := runsF_ne (s := W4.zero.with c c) 256 0 c.toNat (by omega) c.toNat_lt (by rw [single_has _ _ c.toNat_lt]; simp) (by omega)
  cases hr : runsF (W4.zero.with c c) 256 0 with
  | nil => exact absurd hr hne
  | cons r l =>
    have ho := runs_ord (s := W4.zero.with c c) 256 0 r (by rw [hr]; simp)
    have hh := (runs_has (s := W4.zero.with c c) 256 0 (by omega) r.1 (by omega) (by omega)).2 ⟨r, by rw [hr]; simp, Nat.le_refl _, ho.2.1⟩
    rw [single_has _ _ (by omega)] at hh
    have : r.1 = c.toNat := of_decide_eq_true hh
    exact ⟨r.2, l, by rw [← this]⟩
theorem low_single (c : UInt8) : lowU (W4.zero.with c c) = c := by
  obtain ⟨e, l, h⟩ := runs_single c
  unfold lowU
  rw [h]
  exact UInt8.ofNat_toNat
/-- a byte of a class, put and read -/
theorem mem_esc (b : UInt8) (t : List UInt8) : memL (escT b icS ++ t) = some (W4.zero.with b b, t) := by
  unfold escT
  by_cases h : oneOf icS b = true
  · rw [if_pos h]
    show memL (92 :: (b :: t)) = _
    unfold memL
    dsimp only
    rw [if_pos rfl]
    have hb : b = 92 ∨ b = 93 ∨ b = 45 ∨ b = 94 := by
      unfold oneOf at h
      have h2 : ixB b.toNat icS 0 ≥ 0 := of_decide_eq_true h
      simp only [ixB] at h2
      repeat' (first | (rw [cond_eq_ite] at h2; split at h2))
      · rename_i g; left; exact (UInt8.toNat_inj.1 (Nat.eq_of_beq_eq_true g)).symm
      · rename_i g; right; left; exact (UInt8.toNat_inj.1 (Nat.eq_of_beq_eq_true g)).symm
      · rename_i g; right; right; left; exact (UInt8.toNat_inj.1 (Nat.eq_of_beq_eq_true g)).symm
      · rename_i g; right; right; right; exact (UInt8.toNat_inj.1 (Nat.eq_of_beq_eq_true g)).symm
      · omega
    have e : escS b = W4.zero.with b b := by rcases hb with rfl | rfl | rfl | rfl <;> rfl
    unfold escL
    dsimp only
    rw [e, if_neg (with_ne (Nat.le_refl _))]
  · rw [if_neg h]
    show (if b = 92 then escL t else if oneOf inClass b = true then none else some (W4.zero.with b b, t)) = _
    rw [if_neg (fun e => h (by rw [e]; decide)), if_neg (show ¬ oneOf inClass b = true from h)]
/-- the first byte of a byte of a class -/
theorem esc_hd (b : UInt8) (t : List UInt8) : (escT b icS ++ t).headD 0 ≠ 93 ∧ (escT b icS ++ t).headD 0 ≠ 45 ∧ (escT b icS ++ t).headD 0 ≠ 94 := by
  unfold escT
  by_cases h : oneOf icS b = true
  · rw [if_pos h]; exact ⟨show (92 : UInt8) ≠ 93 by decide, show (92 : UInt8) ≠ 45 by decide, show (92 : UInt8) ≠ 94 by decide⟩
  · rw [if_neg h]
    show b ≠ 93 ∧ b ≠ 45 ∧ b ≠ 94
    exact ⟨fun e => h (by rw [e]; decide), fun e => h (by rw [e]; decide), fun e => h (by rw [e]; decide)⟩
theorem item_one (a : UInt8) (t : List UInt8) (h : t.headD 0 ≠ 45) : itemL (escT a icS ++ t) = some (W4.zero.with a a, t) := by
  unfold itemL
  rw [mem_esc]
  cases t with
  | nil => rfl
  | cons c t =>
    dsimp only
    rw [if_neg (show ¬ c = 45 from h)]
theorem item_rng (a b : UInt8) (t : List UInt8) (h : a.toNat ≤ b.toNat) : itemL (escT a icS ++ (45 :: (escT b icS ++ t))) = some (W4.zero.with a b, t) := by
  unfold itemL
  rw [mem_esc]
  dsimp only
  rw [if_pos rfl, mem_esc]
  dsimp only
  rw [cnt_single, cnt_single, low_single, low_single, if_pos ⟨rfl, rfl, h⟩]
theorem clsT_cons (r : Nat × Nat) (l : List (Nat × Nat)) : clsT (r :: l) = (escT (UInt8.ofNat r.1) icS ++ (if r.1 < r.2 then 45 :: escT (UInt8.ofNat r.2) icS else [])) ++ clsT l := rfl
theorem clsT_hd (l : List (Nat × Nat)) (t : List UInt8) : (clsT l ++ 93 :: t).headD 0 ≠ 45 := by
  cases l with
  | nil => show (93 : UInt8) ≠ 45; decide
  | cons r l =>
    rw [clsT_cons]
    rw [List.append_assoc, List.append_assoc]
    exact (esc_hd _ _).2.1
theorem cls_runs : ∀ (l : List (Nat × Nat)) (f : Nat) (acc : W4) (first : Bool) (t : List UInt8), l.length < f → (∀ r ∈ l, r.1 ≤ r.2 ∧ r.2 < 256) → (l = [] → first = false) → clsL f acc first (clsT l ++ 93 :: t) = some (unionR acc l, t)
  | _, 0, _, _, _, h, _, _ => by omega
  | [], f + 1, acc, first, t, _, _, hf => by
    show (if first = false ∧ (93 : UInt8) = 93 then _ else _) = _
    rw [if_pos ⟨hf rfl, rfl⟩]; rfl
  | r :: l, f + 1, acc, first, t, h, hr, _ => by
    have h0 := hr r (by simp)
    have ih := fun acc => cls_runs l f acc false t (by simpa using h) (fun q hq => hr q (by simp [hq])) (fun _ => rfl)
    have hh : (clsT (r :: l) ++ 93 :: t).headD 0 ≠ 93 := by
      rw [clsT_cons]
      rw [List.append_assoc, List.append_assoc]
      exact (esc_hd _ _).1
    show (if first = false ∧ (clsT (r :: l) ++ 93 :: t).headD 0 = 93 then _ else _) = _
    rw [if_neg (fun g => hh g.2)]
    have e : itemL (clsT (r :: l) ++ 93 :: t) = some (W4.zero.with (UInt8.ofNat r.1) (UInt8.ofNat r.2), clsT l ++ 93 :: t) := by
      rw [clsT_cons]
      rw [List.append_assoc, List.append_assoc]
      by_cases hlt : r.1 < r.2
      · rw [if_pos hlt]
        exact item_rng _ _ _ (by rw [u8n (n := r.1) (by omega), u8n (n := r.2) h0.2]; omega)
      · rw [if_neg hlt, List.nil_append, show r.2 = r.1 by omega]
        exact item_one _ _ (clsT_hd l t)
    rw [e]
    exact ih _
/-- a set, put and read -/
theorem atom_set {rec : List UInt8 → RL} {s : W4} (hs : s ≠ W4.zero) (t : List UInt8) : atomL rec (putS s ++ t) = some (.one s, t) := by
  unfold putS
  by_cases h0 : s = dotS
  · rw [if_pos h0, h0]; rfl
  rw [if_neg h0]
  by_cases h1 : ((W4.cntTo s 256 : Nat) : Int) = 1
  · rw [if_pos h1]
    obtain ⟨c, rfl⟩ := single_of (s := s) (by omega)
    obtain ⟨e, l, hr⟩ := runs_single c
    rw [hr]
    simp only [List.headD_cons, UInt8.ofNat_toNat]
    unfold escT
    by_cases hsp : oneOf spS c = true
    · rw [if_pos hsp]
      show (match escL (c :: t) with | none => none | some (x, t') => some (Node.one x, t')) = _
      have hq : escS c = W4.zero.with c c := by
        have hne : ∀ d : UInt8, isLit d = true → c ≠ d := fun d hd e => by rw [e] at hsp; exact sp_of hd hsp
        unfold escS
        rw [if_neg (hne 110 (by decide)), if_neg (hne 116 (by decide)), if_neg (hne 100 (by decide)), if_neg (hne 119 (by decide)), if_neg (hne 115 (by decide)), if_pos (.inr hsp)]
      unfold escL
      dsimp only
      rw [hq, if_neg (with_ne (Nat.le_refl _))]
    · have hsp' : ¬ oneOf specials c = true := hsp
      rw [if_neg hsp]
      have hl : isLit c = true := by unfold isLit; simpa using hsp'
      show atomL rec (c :: t) = _
      unfold atomL
      dsimp only
      rw [if_neg (lit_ne hl (by decide)), if_neg (lit_ne hl (by decide)), if_neg (lit_ne hl (by decide)), if_neg (lit_ne hl (by decide)), if_neg (lit_ne hl (by decide)), if_neg (lit_ne hl (by decide)), if_neg hsp']
  · rw [if_neg h1]
    have hne : runsF s 256 0 ≠ [] := fun e => by
      apply hs
      rw [← union_runs s, e]; rfl
    have hcl : classL (clsT (runsF s 256 0) ++ 93 :: t) = some (s, t) := by
      have hh : (clsT (runsF s 256 0) ++ 93 :: t).headD 0 ≠ 94 := by
        cases hr : runsF s 256 0 with
        | nil => exact absurd hr hne
        | cons r l =>
          rw [clsT_cons]
          rw [List.append_assoc, List.append_assoc]
          exact (esc_hd _ _).2.2
      unfold classL
      rw [if_neg hh]
      have hlen : (runsF s 256 0).length ≤ (clsT (runsF s 256 0)).length := by
        generalize runsF s 256 0 = l
        induction l with
        | nil => simp
        | cons r l ih =>
          have : 1 ≤ (escT (UInt8.ofNat r.1) icS).length := by unfold escT; split <;> simp
          simp only [clsT, List.length_append, List.length_cons] at *; omega
      rw [cls_runs (runsF s 256 0) _ W4.zero true t (by simp; omega) (fun r hr => (runs_ord 256 0 r hr).2) (fun e => absurd e hne), union_runs]
      dsimp only
      rw [if_neg hh, if_neg hs]
    show (match classL (clsT (runsF s 256 0) ++ [93] ++ t) with | none => none | some (x, t') => some (Node.one x, t')) = _
    rw [List.append_assoc, show [93] ++ t = 93 :: t from rfl, hcl]
end Go.Proofs.YtanopbolgfcojaaDoor.E.S4

/- What a reader makes is of the shapes that are put. -/
namespace Go.Proofs.YtanopbolgfcojaaDoor.E.S4
open Go Go.Proofs E E.R Go.Lib
theorem dig21 : ∀ k, k < 21 → ((itoaE ((k : Nat) : Int)).all isDig = true ∧ numP (itoaE ((k : Nat) : Int)) = (((k : Nat) : Int), true)) := by decide +kernel
theorem while_digs {l t : List UInt8} (h : l.all isDig = true) (hc : isDig (t.headD 0) = false) : (l ++ t).takeWhile isDig = l ∧ (l ++ t).dropWhile isDig = t := by
  induction l with
  | nil =>
    cases t with
    | nil => exact ⟨rfl, rfl⟩
    | cons c t =>
      have hc' : ¬ isDig c = true := by simpa using hc
      rw [List.nil_append, List.takeWhile_cons_of_neg hc', List.dropWhile_cons_of_neg hc']
      exact ⟨rfl, rfl⟩
  | cons c l ih =>
    simp only [List.all_cons, Bool.and_eq_true] at h
    obtain ⟨h1, h2⟩ := ih h.2
    rw [List.cons_append, List.takeWhile_cons_of_pos h.1, List.dropWhile_cons_of_pos h.1, h1, h2]
    exact ⟨rfl, rfl⟩
theorem num_lit {k : Int} {t : List UInt8} (h0 : 0 ≤ k) (h1 : k ≤ 20) (hc : isDig (t.headD 0) = false) : numL (itoaE k ++ t) = some (k, t) := by
  obtain ⟨n, rfl⟩ : ∃ n : Nat, k = n := ⟨k.toNat, by omega⟩
  obtain ⟨g1, g2⟩ := dig21 n (by omega)
  obtain ⟨w1, w2⟩ := while_digs g1 hc
  unfold numL
  rw [w1, w2]
  show (if (numP (itoaE n)).2 = true ∧ (numP (itoaE n)).1 ≤ 20 then some ((numP (itoaE n)).1, t) else none) = _
  rw [g2, if_pos ⟨rfl, h1⟩]
theorem brc_a {r t : List UInt8} {a : Int} (h : numL r = some (a, 125 :: t)) : brcL r = some (a, a, t) := by
  unfold brcL
  rw [h]
  simp
theorem brc_e {r t : List UInt8} {a : Int} (h : numL r = some (a, 44 :: 125 :: t)) : brcL r = some (a, -1, t) := by
  unfold brcL
  rw [h]
  simp
theorem brc_ab {r r1 t : List UInt8} {a b : Int} (h : numL r = some (a, 44 :: r1)) (h2 : r1.headD 0 ≠ 125) (h3 : numL r1 = some (b, 125 :: t)) (h4 : a ≤ b) : brcL r = some (a, b, t) := by
  unfold brcL
  rw [h]
  simp [h3, h4]
  exact fun e => absurd (by simpa using e) h2
theorem times_rd {n : Node} {a b : Int} {t : List UInt8} (h0 : 0 ≤ a) (h1 : a ≤ 20) (h2 : b = -1 ∨ a ≤ b ∧ b ≤ 20) : timesL n (timesT a b ++ t) = some (.mk 6 W4.zero a b [n], t) := by
  unfold timesT
  by_cases c1 : a = 0 ∧ b = -1
  · rw [if_pos c1, c1.1, c1.2]; rfl
  rw [if_neg c1]
  by_cases c2 : a = 1 ∧ b = -1
  · rw [if_pos c2, c2.1, c2.2]; rfl
  rw [if_neg c2]
  by_cases c3 : a = 0 ∧ b = 1
  · rw [if_pos c3, c3.1, c3.2]; rfl
  rw [if_neg c3]
  have hd : ∀ r : List UInt8, brcL r = some (a, b, t) → timesL n (123 :: r) = some (.mk 6 W4.zero a b [n], t) := fun r hr => by
    unfold timesL
    simp [hr]
  by_cases c4 : b = a
  · rw [if_pos c4]
    refine hd (itoaE a ++ [125] ++ t) ?_
    rw [List.append_assoc, c4]
    exact brc_a (num_lit h0 h1 (by show isDig 125 = false; decide))
  rw [if_neg c4]
  by_cases c5 : b = -1
  · rw [if_pos c5]
    refine hd (itoaE a ++ [44] ++ [125] ++ t) ?_
    rw [List.append_assoc, List.append_assoc, c5]
    exact brc_e (num_lit h0 h1 (by show isDig 44 = false; decide))
  rw [if_neg c5]
  refine hd (itoaE a ++ ([44] ++ itoaE b) ++ [125] ++ t) ?_
  have hb : a ≤ b ∧ b ≤ 20 := h2.resolve_left c5
  rw [List.append_assoc, List.append_assoc]
  have hx : (itoaE b ++ ([125] ++ t)).headD 0 ≠ 125 := by
    obtain ⟨k, rfl⟩ : ∃ k : Nat, b = k := ⟨b.toNat, by omega⟩
    obtain ⟨g1, g2⟩ := dig21 k (by omega)
    cases hq : itoaE (k : Int) with
    | nil => rw [hq] at g2; exact absurd g2 (by rw [show numP [] = (0, false) by decide +kernel]; simp)
    | cons c l =>
      rw [hq] at g1
      simp only [List.all_cons, Bool.and_eq_true] at g1
      show c ≠ 125
      intro e
      rw [e] at g1
      exact absurd g1.1 (by decide)
  exact brc_ab (num_lit h0 h1 (by show isDig 44 = false; decide)) hx (num_lit (by omega) hb.2 (by show isDig 125 = false; decide)) hb.1
theorem numP_true {s : List UInt8} (h : (numP s).2 = true) : itoaE (numP s).1 = s := by
  unfold numP at h ⊢
  cases hp : parseIntB 64 s with
  | ok v =>
    rw [hp] at h
    dsimp only at h ⊢
    by_cases he : itoaE v = s
    · rw [if_pos he]; exact he
    · rw [if_neg he] at h; cases h
  | _ => rw [hp] at h; cases h
/-- a number that is read -/
theorem num_bd {t r : List UInt8} {v : Int} (h : numL t = some (v, r)) : 0 ≤ v ∧ v ≤ 20 := by
  unfold numL at h
  split at h
  · rename_i hc
    injection h with h
    injection h with h _
    rw [h] at hc
    refine ⟨?_, hc.2⟩
    rcases Int.lt_or_le v 0 with hv | hv
    · exfalso
      have h1 : (numP (t.takeWhile isDig)).2 = true := hc.1
      have h2 : (numP (t.takeWhile isDig)).1 = v := h
      have he := numP_true h1
      rw [h2] at he
      have h3 : itoaE v = 45 :: dDig 20 v.natAbs := by unfold itoaE; rw [decide_eq_true hv]; rfl
      rw [h3] at he
      have h4 : ∀ c ∈ t.takeWhile isDig, isDig c = true := fun c hc => List.all_eq_true.1 List.all_takeWhile c hc
      rw [← he] at h4
      exact absurd (h4 45 (by simp)) (by decide)
    · exact hv
  · cases h
def NormE (n : Node) : Prop := ∃ d, Norm d n
theorem list_norm : ∀ {l : List Node}, (∀ n ∈ l, NormE n) → ∃ d, ∀ n ∈ l, Norm d n
  | [], _ => ⟨0, fun n h => by cases h⟩
  | n :: l, h => by
    obtain ⟨d, hd⟩ := list_norm (l := l) fun q hq => h q (by simp [hq])
    obtain ⟨e, he⟩ := h n (by simp)
    refine ⟨max d e, fun q hq => ?_⟩
    rcases List.mem_cons.1 hq with rfl | hq
    · exact he.mono (by omega)
    · exact (hd q hq).mono (by omega)
theorem NormE.mk {n : Node} (h : Shape n) (hk : ∀ k ∈ n.kids, NormE k) : NormE n := by
  obtain ⟨d, hd⟩ := list_norm hk
  exact ⟨d + 1, h, hd⟩
theorem NormE.kid {n k : Node} (h : NormE n) (hk : k ∈ n.kids) : NormE k := by
  obtain ⟨d, hd⟩ := h
  cases d with
  | zero => exact hd.elim
  | succ d => exact ⟨d, hd.2 k hk⟩
theorem NormE.shape {n : Node} (h : NormE n) : Shape n := by
  obtain ⟨d, hd⟩ := h
  cases d with
  | zero => exact hd.elim
  | succ d => exact hd.1
theorem one_norm {s : W4} (h : s ≠ W4.zero) : NormE (.one s) := .mk (.one s h) (fun k hk => by cases hk)
theorem esc_ne {t r : List UInt8} {x : W4} (h : escL t = some (x, r)) : x ≠ W4.zero := by
  unfold escL at h
  split at h
  · cases h
  · split at h
    · cases h
    · rename_i hz; cases h; exact hz
theorem class_ne {t r : List UInt8} {x : W4} (h : classL t = some (x, r)) : x ≠ W4.zero := by
  unfold classL at h
  split at h
  · cases h
  · split at h
    · split at h
      · cases h
      · rename_i hz; cases h; exact hz
    · split at h
      · cases h
      · rename_i hz; cases h; exact hz
theorem empty_norm : NormE (.mk 0 W4.zero 0 0 []) := .mk .empty (fun k hk => by cases hk)
def NormR (rec : List UInt8 → RL) : Prop := ∀ t n r, rec t = some (n, r) → NormE n
theorem atom_norm {rec : List UInt8 → RL} (hr : NormR rec) {t : List UInt8} {n : Node} {r : List UInt8} (h : atomL rec t = some (n, r)) : NormE n := by
  unfold atomL at h
  split at h
  · cases h
  · split at h
    · split at h
      · cases h
      · rename_i n' t' hc
        split at h
        · cases h; exact hr _ _ _ hc
        · cases h
    split at h
    · cases h; exact one_norm (by decide +kernel)
    split at h
    · cases h; exact .mk .beg (fun k hk => by cases hk)
    split at h
    · cases h; exact .mk .fin (fun k hk => by cases hk)
    split at h
    · split at h
      · cases h
      · rename_i x t' he; cases h; exact one_norm (esc_ne he)
    split at h
    · split at h
      · cases h
      · rename_i x t' he; cases h; exact one_norm (class_ne he)
    split at h
    · cases h
    · cases h; exact one_norm (with_ne (Nat.le_refl _))
theorem brc_bd {t r : List UInt8} {a b : Int} (h : brcL t = some (a, b, r)) : 0 ≤ a ∧ a ≤ 20 ∧ (b = -1 ∨ a ≤ b ∧ b ≤ 20) := by
  unfold brcL at h
  split at h
  · cases h
  · rename_i v t1 hm
    have h1 := num_bd hm
    split at h
    · cases h; exact ⟨h1.1, h1.2, .inr ⟨by omega, h1.2⟩⟩
    split at h
    · split at h
      · cases h; exact ⟨h1.1, h1.2, .inl rfl⟩
      · split at h
        · cases h
        · rename_i v2 t2 hm2
          have h3 := num_bd hm2
          split at h
          · rename_i hc; cases h; exact ⟨h1.1, h1.2, .inr ⟨hc.2, h3.2⟩⟩
          · cases h
    · cases h
theorem rep_norm {n : Node} {a b : Int} (hn : NormE n) (h0 : 0 ≤ a) (h1 : a ≤ 20) (h2 : b = -1 ∨ a ≤ b ∧ b ≤ 20) : NormE (.mk 6 W4.zero a b [n]) := .mk (.rep a b n h0 h1 h2) (fun k hk => by
  have : k = n := by simpa [Node.kids] using hk
  rw [this]; exact hn)
theorem times_norm {m n : Node} (hm : NormE m) {t r : List UInt8} (h : timesL m t = some (n, r)) : NormE n := by
  unfold timesL at h
  split at h
  · cases h; exact rep_norm hm (by omega) (by omega) (.inl rfl)
  split at h
  · cases h; exact rep_norm hm (by omega) (by omega) (.inl rfl)
  split at h
  · cases h; exact rep_norm hm (by omega) (by omega) (.inr (by omega))
  split at h
  · split at h
    · cases h
    · rename_i lo hi t' hb
      cases h
      obtain ⟨g1, g2, g3⟩ := brc_bd hb
      exact rep_norm hm g1 g2 g3
  · cases h; exact hm
theorem piece_norm {rec : List UInt8 → RL} (hr : NormR rec) {t : List UInt8} {n : Node} {r : List UInt8} (h : pieceL rec t = some (n, r)) : NormE n := by
  unfold pieceL at h
  split at h
  · cases h
  · rename_i m t' ha
    exact times_norm (atom_norm hr ha) h
theorem flat_norm {kd : Int} {l : List Node} (h : ∀ n ∈ l, NormE n) : ∀ n ∈ flatF kd l, NormE n := by
  induction l with
  | nil => intro n hn; cases hn
  | cons q l ih =>
    intro n hn
    simp only [flatF] at hn
    rcases List.mem_append.1 hn with hn | hn
    · split at hn
      · exact (h q (by simp)).kid hn
      · have : n = q := by simpa using hn
        rw [this]; exact h q (by simp)
    · exact ih (fun x hx => h x (by simp [hx])) n hn
/-- kids of a kind are in their place -/
theorem flat_kind {kd : Int} {l : List Node} (hk : kd = 4 ∨ kd = 5) (h : ∀ n ∈ l, NormE n) : ∀ n ∈ flatF kd l, n.kind ≠ kd := by
  induction l with
  | nil => intro n hn; cases hn
  | cons q l ih =>
    intro n hn
    simp only [flatF] at hn
    rcases List.mem_append.1 hn with h1 | h1
    · split at h1
      · rename_i hq
        have hs := (h q (by simp)).shape
        rcases hk with rfl | rfl
        · cases hs with
          | cat l' _ hkk => exact (hkk n h1).2
          | _ => simp [Node.kind] at hq
        · cases hs with
          | alt l' _ hkk => exact hkk n h1
          | _ => simp [Node.kind] at hq
      · rename_i hq
        have : n = q := by simpa using h1
        rw [this]; exact hq
    · exact ih (fun x hx => h x (by simp [hx])) n h1
theorem full_mem {l : List Node} {n : Node} (h : n ∈ full l) : n ∈ l ∧ n.kind ≠ 0 := by
  unfold full at h
  rw [List.mem_filter] at h
  exact ⟨h.1, by simpa using h.2⟩
theorem cat_norm {l : List Node} (h : ∀ n ∈ l, NormE n) : NormE (catF l) := by
  have h1 : ∀ n ∈ full (flatF 4 l), NormE n ∧ n.kind ≠ 0 ∧ n.kind ≠ 4 := fun n hn => ⟨flat_norm h n (full_mem hn).1, (full_mem hn).2, flat_kind (.inl rfl) h n (full_mem hn).1⟩
  unfold catF
  generalize full (flatF 4 l) = f at *
  match f with
  | [] => exact empty_norm
  | [n] => exact (h1 n (by simp)).1
  | x :: y :: f => exact .mk (.cat (x :: y :: f) (by simp) fun k hk => (h1 k hk).2) fun k hk => (h1 k hk).1
theorem end_norm {l : List Node} (hl : l ≠ []) (h : ∀ n ∈ l, NormE n) (hk : ∀ n ∈ flatF 5 l, True) : NormE (endF l) ∨ (flatF 5 l).length < 2 := by
  unfold endF
  split
  · exact .inl (h _ (by simp))
  · rename_i l' hl'
    by_cases h2 : 2 ≤ (flatF 5 l).length
    · exact .inl (.mk (.alt _ h2 fun k hk => flat_kind (.inr rfl) h k hk) fun k hk => flat_norm h k hk)
    · exact .inr (by omega)
theorem flat_len {kd : Int} (hk : kd = 5) : ∀ {l : List Node}, (∀ n ∈ l, NormE n) → l.length ≤ (flatF kd l).length
  | [], _ => by simp
  | n :: l, h => by
    have ih := flat_len hk (l := l) fun q hq => h q (by simp [hq])
    simp only [flatF, List.length_append, List.length_cons]
    have : 1 ≤ (if n.kind = kd then n.kids else [n]).length := by
      split
      · rename_i hn
        have hs := (h n (by simp)).shape
        subst hk
        cases hs with
        | alt l' hl _ => simp only [Node.kids]; omega
        | _ => simp [Node.kind] at hn
      · simp
    omega
theorem endF_norm {l : List Node} (hl : l ≠ []) (h : ∀ n ∈ l, NormE n) : NormE (endF l) := by
  match l, hl with
  | [n], _ => exact h n (by simp)
  | a :: b :: l, _ =>
    rcases end_norm (l := a :: b :: l) (by simp) h (fun _ _ => trivial) with h1 | h1
    · exact h1
    · have := flat_len (kd := 5) rfl h
      simp at this; omega
theorem loop_norm {rec : List UInt8 → RL} (hr : NormR rec) : ∀ (f : Nat) (A O : List Node) (t : List UInt8) (A' O' : List Node) (r : List UInt8), (∀ n ∈ A, NormE n) → (∀ n ∈ O, NormE n) → loopL rec f A O t = some (A', O', r) → (∀ n ∈ A', NormE n) ∧ ∀ n ∈ O', NormE n
  | 0, _, _, _, _, _, _, _, _, h => by simp [loopL] at h
  | f + 1, A, O, t, A', O', r, hA, hO, h => by
    unfold loopL at h
    split at h
    · cases h; exact ⟨hA, hO⟩
    split at h
    · exact loop_norm hr f _ _ _ _ _ _ (fun n hn => by
        rcases List.mem_append.1 hn with hn | hn
        · exact hA n hn
        · have : n = catF O := by simpa using hn
          rw [this]; exact cat_norm hO) (fun n hn => by cases hn) h
    split at h
    · cases h
    · rename_i n t' hp
      exact loop_norm hr f _ _ _ _ _ _ hA (fun q hq => by
        rcases List.mem_append.1 hq with hq | hq
        · exact hO q hq
        · have : q = n := by simpa using hq
          rw [this]; exact piece_norm hr hp) h
theorem alt_norm : ∀ f, NormR (altL f)
  | 0 => fun t n r h => by simp [altL] at h
  | f + 1 => fun t n r h => by
    unfold altL at h
    split at h
    · cases h
    · rename_i A O t' hl
      cases h
      obtain ⟨h1, h2⟩ := loop_norm (alt_norm f) _ _ _ _ _ _ _ (fun n hn => by cases hn) (fun n hn => by cases hn) hl
      exact endF_norm (by simp) fun n hn => by
        rcases List.mem_append.1 hn with hn | hn
        · exact h1 n hn
        · have : n = catF O := by simpa using hn
          rw [this]; exact cat_norm h2
theorem rdA_norm : NormR rdA := fun _ n r h => alt_norm _ _ n r h
theorem Norm.of_dep : ∀ {d e : Nat} {n : Node}, Norm e n → Dep d n → Norm d n
  | 0, _, _, _, h => h.elim
  | d + 1, 0, _, h, _ => h.elim
  | d + 1, e + 1, _, h, hd => ⟨h.1, fun k hk => Norm.of_dep (h.2 k hk) (hd k hk)⟩
end Go.Proofs.YtanopbolgfcojaaDoor.E.S4

/- What is put is read as it was. -/
namespace Go.Proofs.YtanopbolgfcojaaDoor.E.S4
open Go Go.Proofs E E.R
/-- what stands one behind the other -/
def pieces (n : Node) : List Node := if n.kind = 0 then [] else if n.kind = 4 then n.kids else [n]
/-- a piece's text -/
def txt (k : Node) : List UInt8 := inCat (k.kind, k.put)
def okHd (c : UInt8) : Prop := c ≠ 0 ∧ c ≠ 41 ∧ c ≠ 124 ∧ quant c = false
theorem joinB_nil : ∀ l : List (List UInt8), joinB [] l = l.flatten
  | [] => rfl
  | [x] => by simp [joinB]
  | x :: y :: l => by
    have := joinB_nil (y :: l)
    simp only [joinB, List.nil_append, this, List.flatten_cons]
theorem kind_cases {n : Node} (h : Shape n) : n.kind = 0 ∨ n.kind = 1 ∨ n.kind = 2 ∨ n.kind = 3 ∨ n.kind = 4 ∨ n.kind = 5 ∨ n.kind = 6 := by
  cases h <;> simp [Node.kind]
theorem put_pieces {n : Node} (h : Shape n) (h5 : n.kind ≠ 5) : n.put = ((pieces n).map txt).flatten := by
  cases h with
  | empty => rw [put_eq]; rfl
  | one s _ => simp [pieces, txt, inCat, Node.kind]
  | beg => rfl
  | fin => rfl
  | cat l _ hk =>
    rw [put_eq]
    show joinB [] ((l.map fun n => (n.kind, n.put)).map inCat) = _
    rw [joinB_nil, List.map_map]
    rfl
  | alt => exact absurd rfl h5
  | rep a b q => simp [pieces, txt, inCat, Node.kind]
theorem flat_self {kd : Int} : ∀ {l : List Node}, (∀ n ∈ l, n.kind ≠ kd) → flatF kd l = l
  | [], _ => rfl
  | n :: l, h => by
    unfold flatF
    rw [if_neg (h n (by simp)), flat_self fun q hq => h q (by simp [hq])]
    rfl
theorem full_self {l : List Node} (h : ∀ n ∈ l, n.kind ≠ 0) : full l = l := by
  unfold full
  rw [List.filter_eq_self]
  intro n hn
  simp [h n hn]
theorem cat_pieces {n : Node} (h : Shape n) (h5 : n.kind ≠ 5) : catF (pieces n) = n := by
  have one : ∀ k : Node, k.kind ≠ 0 → k.kind ≠ 4 → catF [k] = k := fun k h0 h4 => by
    unfold catF
    rw [flat_self (by simpa using h4), full_self (by simpa using h0)]
  cases h with
  | empty => rfl
  | one s h => exact one _ (by simp [Node.kind]) (by simp [Node.kind])
  | beg => rfl
  | fin => rfl
  | cat l hl hk =>
    show catF l = _
    unfold catF
    rw [flat_self fun n hn => (hk n hn).2, full_self fun n hn => (hk n hn).1]
    match l, hl with
    | a :: b :: l, _ => rfl
  | alt => exact absurd rfl h5
  | rep a b q => exact one _ (by simp [Node.kind]) (by simp [Node.kind])
theorem lit_ok {c : UInt8} (h : isLit c = true) (h0 : c ≠ 0) : okHd c := ⟨h0, lit_ne h (by decide), lit_ne h (by decide), lit_quant h⟩
theorem putS_hd {s : W4} (hs : s ≠ W4.zero) (t : List UInt8) : putS s ++ t ≠ [] ∧ (putS s ++ t).headD 0 ≠ 41 ∧ (putS s ++ t).headD 0 ≠ 124 ∧ quant ((putS s ++ t).headD 0) = false := by
  unfold putS
  by_cases h0 : s = dotS
  · rw [if_pos h0]; exact ⟨by simp, show (46 : UInt8) ≠ 41 by decide, show (46 : UInt8) ≠ 124 by decide, show quant 46 = false by decide⟩
  rw [if_neg h0]
  by_cases h1 : ((W4.cntTo s 256 : Nat) : Int) = 1
  · rw [if_pos h1]
    unfold escT
    by_cases h2 : oneOf spS (UInt8.ofNat ((runsF s 256 0).headD (0, 0)).1) = true
    · rw [if_pos h2]; exact ⟨by simp, show (92 : UInt8) ≠ 41 by decide, show (92 : UInt8) ≠ 124 by decide, show quant 92 = false by decide⟩
    · rw [if_neg h2]
      generalize UInt8.ofNat ((runsF s 256 0).headD (0, 0)).1 = c at *
      have hl : isLit c = true := by
        have h2' : ¬ oneOf specials c = true := h2
        unfold isLit; simpa using h2'
      exact ⟨by simp, show c ≠ 41 from lit_ne hl (by decide), show c ≠ 124 from lit_ne hl (by decide), show quant c = false from lit_quant hl⟩
  · rw [if_neg h1]; exact ⟨by simp, show (91 : UInt8) ≠ 41 by decide, show (91 : UInt8) ≠ 124 by decide, show quant 91 = false by decide⟩
/-- a piece reads as itself -/
def Piece (k : Node) : Prop := (∀ t : List UInt8, quant (t.headD 0) = false → rdP (txt k ++ t) = some (k, t)) ∧ ∀ t : List UInt8, txt k ++ t ≠ [] ∧ (txt k ++ t).headD 0 ≠ 41 ∧ (txt k ++ t).headD 0 ≠ 124 ∧ quant ((txt k ++ t).headD 0) = false
theorem rd_pieces : ∀ (l : List Node) (A O : List Node) (t : List UInt8), (∀ k ∈ l, Piece k) → quant (t.headD 0) = false → rdO A O ((l.map txt).flatten ++ t) = rdO A (O ++ l) t
  | [], A, O, t, _, _ => by simp
  | k :: l, A, O, t, h, hq => by
    obtain ⟨h1, h2⟩ := h k (by simp)
    have hl := fun q hq => h q (List.mem_cons_of_mem k hq)
    have hn : quant (((l.map txt).flatten ++ t).headD 0) = false := by
      cases l with
      | nil => exact hq
      | cons q l =>
        rw [List.map_cons, List.flatten_cons, List.append_assoc]
        exact ((h q (by simp)).2 _).2.2.2
    rw [List.map_cons, List.flatten_cons, List.append_assoc, rdO_eq]
    obtain ⟨g1, g2, g3, _⟩ := h2 ((l.map txt).flatten ++ t)
    rw [if_neg (fun g => g.elim g1 g2), if_neg g3, h1 _ hn]
    dsimp only
    rw [rd_pieces l A (O ++ [k]) t hl hq, List.append_assoc]
    rfl
/-- where an expression ends -/
def Ends (t : List UInt8) : Prop := t = [] ∨ t.headD 0 = 41
theorem ends_q {t : List UInt8} (h : Ends t) : quant (t.headD 0) = false := by
  rcases h with rfl | h
  · rfl
  · rw [h]; decide
theorem rdO_end {A O : List Node} {t : List UInt8} (h : Ends t) : rdO A O t = some (A, O, t) := by
  rw [rdO_eq, if_pos (show t = [] ∨ t.headD 0 = 41 from h)]
theorem rdO_bar {A O : List Node} {t : List UInt8} : rdO A O (124 :: t) = rdO (A ++ [catF O]) [] t := by
  rw [rdO_eq, if_neg (by rintro (h | h); cases h; exact absurd h (show (124 : UInt8) ≠ 41 by decide)), if_pos (show (124 :: t).headD 0 = 124 from rfl)]
  rfl
theorem endF_one (n : Node) : endF [n] = n := rfl
/-- an expression reads as itself -/
def Expr (n : Node) : Prop := ∀ t, Ends t → rdA (n.put ++ t) = some (n, t)
theorem expr_of_pieces {n : Node} (h : Shape n) (h5 : n.kind ≠ 5) (hp : ∀ k ∈ pieces n, Piece k) : Expr n := fun t ht => by
  rw [put_pieces h h5, rdA_eq, rd_pieces _ _ _ _ hp (ends_q ht), List.nil_append, rdO_end ht]
  dsimp only
  rw [List.nil_append, cat_pieces h h5]
  rfl
theorem rd_alts : ∀ (l : List Node) (k : Node) (A : List Node) (t : List UInt8), (∀ q ∈ k :: l, Shape q ∧ q.kind ≠ 5 ∧ ∀ p ∈ pieces q, Piece p) → Ends t → ∃ A' O', rdO A [] (joinB [124] ((k :: l).map Node.put) ++ t) = some (A', O', t) ∧ A' ++ [catF O'] = A ++ (k :: l)
  | [], k, A, t, h, ht => by
    obtain ⟨h1, h2, h3⟩ := h k (by simp)
    refine ⟨A, pieces k, ?_, by rw [cat_pieces h1 h2]⟩
    show rdO A [] (k.put ++ t) = _
    rw [put_pieces h1 h2, rd_pieces _ _ _ _ h3 (ends_q ht), List.nil_append, rdO_end ht]
  | q :: l, k, A, t, h, ht => by
    obtain ⟨h1, h2, h3⟩ := h k (by simp)
    obtain ⟨A', O', g1, g2⟩ := rd_alts l q (A ++ [k]) t (fun p hp => h p (List.mem_cons_of_mem k hp)) ht
    refine ⟨A', O', ?_, by rw [g2, List.append_assoc]; rfl⟩
    show rdO A [] (k.put ++ ([124] ++ joinB [124] ((q :: l).map Node.put)) ++ t) = _
    rw [List.append_assoc, List.append_assoc, put_pieces h1 h2, rd_pieces _ _ _ ([124] ++ (joinB [124] ((q :: l).map Node.put) ++ t)) h3 (by show quant 124 = false; decide), List.nil_append, show [124] ++ (joinB [124] ((q :: l).map Node.put) ++ t) = 124 :: (joinB [124] ((q :: l).map Node.put) ++ t) from rfl, rdO_bar, cat_pieces h1 h2]
    exact g1
theorem expr_alt {l : List Node} (h2 : 2 ≤ l.length) (hk : ∀ k ∈ l, k.kind ≠ 5) (hp : ∀ q ∈ l, Shape q ∧ ∀ p ∈ pieces q, Piece p) : Expr (.mk 5 W4.zero 0 0 l) := fun t ht => by
  match l, h2 with
  | k :: l, h2 =>
    obtain ⟨A', O', g1, g2⟩ := rd_alts l k [] t (fun q hq => ⟨(hp q hq).1, hk q hq, (hp q hq).2⟩) ht
    have e : (Node.mk 5 W4.zero 0 0 (k :: l)).put = joinB [124] ((k :: l).map Node.put) := by
      rw [put_eq]
      show joinB [124] (((k :: l).map fun n => (n.kind, n.put)).map (·.2)) = _
      rw [List.map_map]
      rfl
    rw [e, rdA_eq, g1]
    dsimp only
    rw [g2, List.nil_append, endF_2 h2, flat_self hk]
theorem grp_piece {n : Node} (h : Expr n) (u : List UInt8) : atomL rdA (brk n.put ++ u) = some (n, u) := by
  have h1 := h (41 :: u) (.inr rfl)
  show atomL rdA (40 :: ((n.put ++ [41]) ++ u)) = _
  rw [List.append_assoc]
  unfold atomL
  dsimp only
  rw [if_pos rfl, show n.put ++ ([41] ++ u) = n.put ++ 41 :: u from rfl, h1]
  dsimp only
  rw [if_pos (show (41 :: u).headD 0 = 41 from rfl)]
  rfl
theorem times_no {n : Node} {t : List UInt8} (h : quant (t.headD 0) = false) : timesL n t = some (n, t) := by
  simp only [quant, Bool.or_eq_false_iff, beq_eq_false_iff_ne] at h
  obtain ⟨h1, h2, h3, h4⟩ := h
  unfold timesL
  rw [if_neg h1, if_neg h2, if_neg h3, if_neg h4]
theorem brk_hd (p t : List UInt8) : brk p ++ t ≠ [] ∧ (brk p ++ t).headD 0 ≠ 41 ∧ (brk p ++ t).headD 0 ≠ 124 ∧ quant ((brk p ++ t).headD 0) = false :=
  ⟨by simp [brk], show (40 : UInt8) ≠ 41 by decide, show (40 : UInt8) ≠ 124 by decide, show quant 40 = false by decide⟩
/-- an atom's text -/
theorem rep_atom {q : Node} (hs : Shape q) (he : Expr q) (u : List UInt8) : atomL rdA (inRep (q.kind, q.put) ++ u) = some (q, u) ∧ ∀ t, inRep (q.kind, q.put) ++ t ≠ [] ∧ (inRep (q.kind, q.put) ++ t).headD 0 ≠ 41 ∧ (inRep (q.kind, q.put) ++ t).headD 0 ≠ 124 ∧ quant ((inRep (q.kind, q.put) ++ t).headD 0) = false := by
  have key : (q.kind = 0 ∨ q.kind = 4 ∨ q.kind = 5 ∨ q.kind = 6) → inRep (q.kind, q.put) = brk q.put := fun h => by unfold inRep; rw [if_pos h]
  have rest : (q.kind = 0 ∨ q.kind = 4 ∨ q.kind = 5 ∨ q.kind = 6) → _ := fun h => And.intro (key h ▸ grp_piece he u : atomL rdA (inRep (q.kind, q.put) ++ u) = some (q, u)) (fun t => (key h ▸ brk_hd q.put t : inRep (q.kind, q.put) ++ t ≠ [] ∧ (inRep (q.kind, q.put) ++ t).headD 0 ≠ 41 ∧ (inRep (q.kind, q.put) ++ t).headD 0 ≠ 124 ∧ quant ((inRep (q.kind, q.put) ++ t).headD 0) = false))
  cases hs with
  | empty => exact rest (.inl rfl)
  | cat => exact rest (.inr (.inl rfl))
  | alt => exact rest (.inr (.inr (.inl rfl)))
  | rep => exact rest (.inr (.inr (.inr rfl)))
  | one s h =>
    have e : inRep ((Node.mk 1 s 0 0 []).kind, (Node.mk 1 s 0 0 []).put) = putS s := by
      rw [put_eq]; simp [inRep, Node.kind, putV, Node.set]
    rw [e]
    exact ⟨atom_set h u, putS_hd h⟩
  | beg => exact ⟨rfl, fun t => ⟨by simp [inRep, Node.kind, put_eq, putV], show (94 : UInt8) ≠ 41 by decide, show (94 : UInt8) ≠ 124 by decide, show quant 94 = false by decide⟩⟩
  | fin => exact ⟨rfl, fun t => ⟨by simp [inRep, Node.kind, put_eq, putV], show (36 : UInt8) ≠ 41 by decide, show (36 : UInt8) ≠ 124 by decide, show quant 36 = false by decide⟩⟩
theorem Norm.shape' {d : Nat} {n : Node} (h : Norm d n) : Shape n := by cases d with | zero => exact h.elim | succ d => exact h.1
/-- what is put is read -/
theorem expr_ok : ∀ (d : Nat) (n : Node), Norm d n → Expr n ∧ (n.kind ≠ 0 → n.kind ≠ 4 → Piece n)
  | 0, _, h => h.elim
  | d + 1, n, h => by
    have hs := h.1
    have ih := fun k hk => expr_ok d k (h.2 k hk)
    have self : n.kind ≠ 0 → n.kind ≠ 4 → n.kind ≠ 5 → Piece n → Expr n := fun h0 h4 h5 hp => expr_of_pieces hs h5 fun k hk => by
      unfold pieces at hk
      rw [if_neg h0, if_neg h4] at hk
      have : k = n := by simpa using hk
      rw [this]; exact hp
    have leaf : ∀ p : List UInt8, txt n = p → (∀ u, atomL rdA (p ++ u) = some (n, u)) → (∀ t, p ++ t ≠ [] ∧ (p ++ t).headD 0 ≠ 41 ∧ (p ++ t).headD 0 ≠ 124 ∧ quant ((p ++ t).headD 0) = false) → Piece n := fun p hp h1 h2 => by
      refine ⟨fun t ht => ?_, fun t => by rw [hp]; exact h2 t⟩
      unfold rdP pieceL
      rw [hp, h1]
      exact times_no ht
    cases hs with
    | empty => exact ⟨expr_of_pieces .empty (by simp [Node.kind]) (fun k hk => by cases hk), fun h0 => absurd rfl h0⟩
    | one s hz =>
      have e : txt (Node.mk 1 s 0 0 []) = putS s := by unfold txt; rw [put_eq]; simp [inCat, Node.kind, putV, Node.set]
      have hp := leaf _ e (fun u => atom_set hz u) (putS_hd hz)
      exact ⟨self (by simp [Node.kind]) (by simp [Node.kind]) (by simp [Node.kind]) hp, fun _ _ => hp⟩
    | beg =>
      have hp := leaf [94] (by unfold txt; rw [put_eq]; simp [inCat, Node.kind, putV]) (fun u => rfl) (fun t => ⟨by simp, show (94 : UInt8) ≠ 41 by decide, show (94 : UInt8) ≠ 124 by decide, show quant 94 = false by decide⟩)
      exact ⟨self (by simp [Node.kind]) (by simp [Node.kind]) (by simp [Node.kind]) hp, fun _ _ => hp⟩
    | fin =>
      have hp := leaf [36] (by unfold txt; rw [put_eq]; simp [inCat, Node.kind, putV]) (fun u => rfl) (fun t => ⟨by simp, show (36 : UInt8) ≠ 41 by decide, show (36 : UInt8) ≠ 124 by decide, show quant 36 = false by decide⟩)
      exact ⟨self (by simp [Node.kind]) (by simp [Node.kind]) (by simp [Node.kind]) hp, fun _ _ => hp⟩
    | cat l h2 hk => exact ⟨expr_of_pieces (.cat l h2 hk) (by simp [Node.kind]) (fun k hk' => (ih k hk').2 (hk k hk').1 (hk k hk').2), fun _ h4 => absurd rfl h4⟩
    | alt l h2 hk =>
      have he := expr_alt h2 hk fun q hq => ⟨(h.2 q hq).shape', fun p hp => by
        have hq' := ih q hq
        unfold pieces at hp
        split at hp
        · cases hp
        · rename_i h0
          split at hp
          · rename_i h4
            have hq2 := h.2 q hq
            cases d with
            | zero => exact hq2.elim
            | succ d =>
              have hsq := hq2.1
              cases hsq with
              | cat l' _ hkk => exact (expr_ok (d + 1) p ((hq2.2 p hp).mono (by omega))).2 (hkk p hp).1 (hkk p hp).2
              | _ => simp [Node.kind] at h4
          · rename_i h4
            have : p = q := by simpa using hp
            rw [this]; exact hq'.2 h0 h4⟩
      refine ⟨he, fun _ _ => leaf _ (show txt (Node.mk 5 W4.zero 0 0 l) = brk (Node.mk 5 W4.zero 0 0 l).put from rfl) (grp_piece he) (brk_hd _)⟩
    | rep a b q g0 g1 g2 =>
      have hq := ih q (by simp [Node.kids])
      have hsq : Shape q := (h.2 q (by simp [Node.kids])).shape'
      have e : txt (Node.mk 6 W4.zero a b [q]) = inRep (q.kind, q.put) ++ timesT a b := by unfold txt; rw [put_eq]; simp [inCat, Node.kind, putV, Node.kids, Node.mn, Node.mx]
      have hp : Piece (Node.mk 6 W4.zero a b [q]) := by
        refine ⟨fun t ht => ?_, fun t => by rw [e, List.append_assoc]; exact (rep_atom hsq hq.1 []).2 _⟩
        unfold rdP pieceL
        rw [e, List.append_assoc, (rep_atom hsq hq.1 _).1]
        exact times_rd g0 g1 g2
      exact ⟨self (by simp [Node.kind]) (by simp [Node.kind]) (by simp [Node.kind]) hp, fun _ _ => hp⟩
end Go.Proofs.YtanopbolgfcojaaDoor.E.S4

/- Texts made of pieces: the walk. -/
namespace Go.Proofs.YtanopbolgfcojaaDoor.E.S4
open Go Go.Proofs E E.R
abbrev xsSt (l P : AV) (s : List UInt8) (i : Nat) : List TV := [.v l, J, J, .v P, .v (.str s), .v (AI i)] ++ List.replicate 28 J
abbrev xsEnd (s : List UInt8) : List TV := [J, J, J, J, .v (.str s)] ++ List.replicate 29 J
theorem xcat {s t : List UInt8} (hs : s.length < 1000) (ht : t.length < 100) : s.length + t.length ≤ 9223372036854775807 := by omega
theorem re_a {m : Int} {fl i j : Nat} {hp : List Blk} {l P : AV} {bs s t : List UInt8} {vs : List AV} {c : UInt8} (hl : IsSl 1 l (bsV bs)) (hP : IsSl 1 P vs) (hc : (bsV bs)[i]? = some (.int .u8 (c.toNat : Int))) (hi : i < bs.length) (hi2 : i < 16) (hs : s.length < 1000) (ht : t.length < 100) (hk : (c.toNat : Int) < 200) (hj : Int.tmod (Int.tmod (c.toNat : Int) 22) 32 = (j : Int)) (hj2 : j < 32) (hv : vs[j]? = some (.str t)) : LoopS (cfg m) fl 17 (bodyAt (cfg m) 17 4) 4 ⟨xsSt l P s i, hp⟩ ⟨xsSt l P (s ++ t) (i + 1), hp⟩ := by
  exact E.loopStepS (St.mk [TV.v l, J, J, TV.v P, TV.v (AV.str (s ++ t)), TV.v (AI ((↑i : Int) + 1)), J, J, J, J, J, J, J, J, J, J, J, J, J, J, J, J, J, J, J, J, J, J, J, J, J, J, J, J] hp) [.m 4 2 (E.len_sl (C := cfg m) (t := 32) (ts' := []) (fl := fl) (ar := false) (hp := hp) hl (by kernel_rfl)), .b 4 3 (decide_eq_true ((show (↑i : Int) < (↑(bsV bs).length : Int) from (by have := UInt8.toNat_lt (c); simp only [E.setAt_length, List.length_append, List.length_cons, List.length_nil, List.length_map] at *; omega)))), .b 4 6 (decide_eq_true ((show (↑i : Int) < 16 from (by omega)))), .a 6 2 (E.indexAddr_sl (C := cfg m) (t := 32) (n := (↑i : Int)) hl (by kernel_rfl) (by omega) hc), .b 7 1 (decide_eq_true (hk)), .w 9 3 IntKind.u8 ((↑j : Int)) hj, .a 9 4 (E.indexAddr_sl (C := cfg m) (t := 46) (n := (↑j : Int)) hP (by kernel_rfl) (by omega) hv), .v 9 6 (E.strOp_add (x := s) (y := t) (E.S4.xcat hs ht)), .w 5 1 IntKind.i64 ((↑i : Int) + 1) (E.wrap_i64' (by omega))] (by kernel_rfl) rfl

theorem re_b {m : Int} {fl i j : Nat} {hp : List Blk} {l P : AV} {bs s t : List UInt8} {vs : List AV} {c : UInt8} (hl : IsSl 1 l (bsV bs)) (hP : IsSl 1 P vs) (hc : (bsV bs)[i]? = some (.int .u8 (c.toNat : Int))) (hi : i < bs.length) (hi2 : i < 16) (hs : s.length < 1000) (ht : t.length < 100) (hk : ¬ (c.toNat : Int) < 200) (hj : Int.tmod (c.toNat : Int) 32 = (j : Int)) (hj2 : j < 32) (hv : vs[j]? = some (.str t)) : LoopS (cfg m) fl 17 (bodyAt (cfg m) 17 4) 4 ⟨xsSt l P s i, hp⟩ ⟨xsSt l P (s ++ t) (i + 1), hp⟩ := by
  exact E.loopStepS (St.mk [TV.v l, J, J, TV.v P, TV.v (AV.str (s ++ t)), TV.v (AI ((↑i : Int) + 1)), J, J, J, J, J, J, J, J, J, J, J, J, J, J, J, J, J, J, J, J, J, J, J, J, J, J, J, J] hp) [.m 4 2 (E.len_sl (C := cfg m) (t := 32) (ts' := []) (fl := fl) (ar := false) (hp := hp) hl (by kernel_rfl)), .b 4 3 (decide_eq_true ((show (↑i : Int) < (↑(bsV bs).length : Int) from (by have := UInt8.toNat_lt (c); simp only [E.setAt_length, List.length_append, List.length_cons, List.length_nil, List.length_map] at *; omega)))), .b 4 6 (decide_eq_true ((show (↑i : Int) < 16 from (by omega)))), .a 6 2 (E.indexAddr_sl (C := cfg m) (t := 32) (n := (↑i : Int)) hl (by kernel_rfl) (by omega) hc), .b 7 1 (decide_eq_false (hk)), .w 9 3 IntKind.u8 ((↑j : Int)) hj, .a 9 4 (E.indexAddr_sl (C := cfg m) (t := 46) (n := (↑j : Int)) hP (by kernel_rfl) (by omega) hv), .v 9 6 (E.strOp_add (x := s) (y := t) (E.S4.xcat hs ht)), .w 5 1 IntKind.i64 ((↑i : Int) + 1) (E.wrap_i64' (by omega))] (by kernel_rfl) rfl

theorem re_x {m : Int} {fl i : Nat} {hp : List Blk} {l P : AV} {bs s : List UInt8} (hl : IsSl 1 l (bsV bs)) (hi : bs.length ≤ i ∨ 16 ≤ i) (hi2 : i ≤ 16) : LoopI (cfg m) fl 17 (bodyAt (cfg m) 17 4) 4 ⟨xsSt l P s i, hp⟩ (.exit 0) ⟨xsEnd s, hp⟩ := by
  by_cases h1 : (↑i : Int) < (↑(bsV bs).length : Int)
  · exact E.loopEndC (.exit 0) (St.mk [J, J, J, J, TV.v (AV.str s), J, J, J, J, J, J, J, J, J, J, J, J, J, J, J, J, J, J, J, J, J, J, J, J, J, J, J, J, J] hp) [.m 4 2 (E.len_sl (C := cfg m) (t := 32) (ts' := []) (fl := fl) (ar := false) (hp := hp) hl (by kernel_rfl)), .b 4 3 (decide_eq_true h1), .b 4 6 (decide_eq_false ((show ¬(↑i : Int) < 16 from (by simp only [E.setAt_length, List.length_append, List.length_cons, List.length_nil, List.length_map] at *; omega))))] (by kernel_rfl) (fun h => by cases h) rfl
  · exact E.loopEndC (.exit 0) (St.mk [J, J, J, J, TV.v (AV.str s), J, J, J, J, J, J, J, J, J, J, J, J, J, J, J, J, J, J, J, J, J, J, J, J, J, J, J, J, J] hp) [.m 4 2 (E.len_sl (C := cfg m) (t := 32) (ts' := []) (fl := fl) (ar := false) (hp := hp) hl (by kernel_rfl)), .b 4 3 (decide_eq_false h1)] (by kernel_rfl) (fun h => by cases h) rfl

abbrev partsL : List (List UInt8) := [[97], [98], [99], [46], [124], [42], [43], [63], [40], [41], [123, 50, 125], [123, 49, 44, 51, 125], [123, 50, 44, 125], [94], [36], [91, 97, 45, 99, 93], [91, 94, 97, 93], [92, 100], [92, 119], [92, 46], [97, 98], [40, 97, 124, 98, 41], [91], [93], [123], [92], [45], [97, 42], [40, 97, 98, 41, 43], [91, 92, 93, 45, 93], [123, 51, 44, 50, 125], [123, 50, 49, 125]]
theorem re_ok {m : Int} {fl : Nat} {hp : List Blk} {l : AV} {s : List UInt8} (hlp : LoopI (cfg m) hp.length 17 (bodyAt (cfg m) 17 4) 4 ⟨xsSt l (.lit 1 .exact (stV partsL)) [] 0, hp⟩ (.exit 0) ⟨xsEnd s, hp⟩) : evI (cfg m) fl 17 [l] hp = some (.str s, hp) := by
  exact E.evX (AV.str s) (hp) [.l 4 hlp] (by kernel_rfl) (E.tlP (by kernel_rfl) rfl (E.shutT (v := AV.str s) (v' := AV.str s) (by kernel_rfl))) rfl
end Go.Proofs.YtanopbolgfcojaaDoor.E.S4

/- Texts made of pieces, by their model. -/
namespace Go.Proofs.YtanopbolgfcojaaDoor.E.S4
open Go Go.Proofs E E.R
/-- which piece a byte stands for -/
def partIx (c : UInt8) : Nat := if c.toNat < 200 then c.toNat % 22 % 32 else c.toNat % 32
def partOf (c : UInt8) : List UInt8 := partsL.getD (partIx c) []
/-- a text made of at most 16 pieces -/
def rexesF (bs : List UInt8) : List UInt8 := ((bs.take 16).map partOf).flatten
theorem partIx_lt (c : UInt8) : partIx c < 32 := by unfold partIx; split <;> omega
theorem parts_get (j : Nat) (h : j < 32) : (stV partsL)[j]? = some (.str (partsL.getD j [])) := by
  have hl : partsL.length = 32 := rfl
  rw [List.getElem?_map, List.getD_eq_getElem?_getD, List.getElem?_eq_getElem (by omega)]
  rfl
theorem parts_len : ∀ j, j < 32 → (partsL.getD j []).length < 6 := by decide
theorem partOf_len (c : UInt8) : (partOf c).length < 6 := parts_len _ (partIx_lt c)
theorem flat_len6 : ∀ (l : List UInt8), ((l.map partOf).flatten).length ≤ 5 * l.length
  | [] => by simp
  | c :: l => by
    have h1 := flat_len6 l
    have h2 := partOf_len c
    simp only [List.map_cons, List.flatten_cons, List.length_append, List.length_cons]
    omega
theorem rexes_len (bs : List UInt8) : (rexesF bs).length ≤ 80 := by
  have h := flat_len6 (bs.take 16)
  have h2 : (bs.take 16).length ≤ 16 := by rw [List.length_take]; omega
  unfold rexesF
  omega
theorem tmod_nat (a b : Nat) : Int.tmod (a : Int) (b : Int) = ((a % b : Nat) : Int) := rfl
theorem xs_loop {m : Int} {fl : Nat} {hp : List Blk} {l : AV} {bs : List UInt8} (hl : IsSl 1 l (bsV bs)) : ∀ (r : List UInt8) (i : Nat) (s : List UInt8), (bs.take 16).drop i = r → i ≤ 16 → s.length + 5 * r.length ≤ 80 → LoopI (cfg m) fl 17 (bodyAt (cfg m) 17 4) 4 ⟨xsSt l (.lit 1 .exact (stV partsL)) s i, hp⟩ (.exit 0) ⟨xsEnd (s ++ (r.map partOf).flatten), hp⟩
  | [], i, s, hd, hi, hs => by
    have h1 : (bs.take 16).length ≤ i := by simpa using hd
    rw [List.length_take] at h1
    rw [List.map_nil, List.flatten_nil, List.append_nil]
    exact re_x hl (by omega) hi
  | c :: r, i, s, hd, hi, hs => by
    have hq : (bs.take 16)[i]? = some c := by have := congrArg (·[0]?) hd; simpa using this
    have hlt := (List.getElem?_eq_some_iff.1 hq).1
    rw [List.length_take] at hlt
    have hq2 : bs[i]? = some c := by rw [List.getElem?_take_of_lt (by omega)] at hq; exact hq
    have hd' : (bs.take 16).drop (i + 1) = r := by rw [← List.drop_drop, hd]; rfl
    have hc : (bsV bs)[i]? = some (.int .u8 (c.toNat : Int)) := by rw [List.getElem?_map, hq2]; rfl
    have hlen := partOf_len c
    have hv := parts_get (partIx c) (partIx_lt c)
    simp only [List.length_cons] at hs
    have ih := xs_loop (m := m) (fl := fl) (hp := hp) hl r (i + 1) (s ++ partOf c) hd' (by omega) (by rw [List.length_append]; omega)
    rw [List.map_cons, List.flatten_cons, ← List.append_assoc]
    by_cases hk : c.toNat < 200
    · refine re_a (j := partIx c) (t := partOf c) hl (.lit _ _ _) hc (by omega) (by omega) (by omega) (by omega) (by omega) ?_ (partIx_lt c) hv _ _ ih
      unfold partIx
      rw [if_pos hk]
      rfl
    · refine re_b (j := partIx c) (t := partOf c) hl (.lit _ _ _) hc (by omega) (by omega) (by omega) (by omega) (by omega) ?_ (partIx_lt c) hv _ _ ih
      unfold partIx
      rw [if_neg hk]
      rfl
theorem rexes_ok {m : Int} {fl : Nat} {hp : List Blk} {l : AV} {bs : List UInt8} (hl : IsSl 1 l (bsV bs)) : evI (cfg m) fl 17 [l] hp = some (.str (rexesF bs), hp) := by
  have h16 : (bs.take 16).length ≤ 16 := by rw [List.length_take]; omega
  exact re_ok (xs_loop (m := m) (fl := hp.length) (hp := hp) hl (bs.take 16) 0 [] rfl (by omega) (by simp only [List.length_nil]; omega))
end Go.Proofs.YtanopbolgfcojaaDoor.E.S4

/- The law RexBack: the walk. -/
namespace Go.Proofs.YtanopbolgfcojaaDoor.E.S4
open Go Go.Proofs E E.R
theorem rb_e {m : Int} {l : AV} {s : List UInt8} {n : Node} {ks : AV} {pl er : Int} (hex : evI (cfg m) 0 10 [] [] = some (.bool true, [])) (hps : evI (cfg m) 0 18 [.str s] [] = some (.tup [nAV n ks, .int .i64 pl, .int .i64 er], [])) (he : ¬ er = 0) (g1 : 0 ≤ pl) (g2 : pl ≤ bif true then bif decide ((s.length : Int) < 0) then 0 else (s.length : Int) else bif decide (0 < (s.length : Int)) then 0 else (s.length : Int)) (g3 : n.kind = 0) (g4 : IsSl 8 ks []) : evI (cfg m) 0 4 [.str s, .bool false, l] [] = some (.bool true, []) := by
  exact E.evX (AV.bool true) ([]) [.c 1 0 hex, .c 6 1 hps, .b 7 1 (bne_iff_ne.2 (he)), .b 8 3 (decide_eq_true (g1)), .b 8 10 (decide_eq_true (g2)), .b 8 15 (beq_iff_eq.2 (g3)), .m 8 20 (E.len_sl (C := cfg m) (t := 34) (ts' := []) (fl := 0) (ar := false) (hp := []) g4 (by kernel_rfl))] (by kernel_rfl) (E.tlP (by kernel_rfl) rfl (E.shutT (v := AV.bool true) (v' := AV.bool true) (by kernel_rfl))) rfl

theorem rb_l {m : Int} {l : AV} {s t : List UInt8} {n : Node} {ks : AV} {pl : Int} (hex : evI (cfg m) 0 10 [] [] = some (.bool true, [])) (hps : evI (cfg m) 0 18 [.str s] [] = some (.tup [nAV n ks, .int .i64 pl, .int .i64 0], [])) (hpt : evI (cfg m) 0 19 [nAV n ks] [] = some (.str t, [])) (ht : 256 < t.length) (hr : evI (cfg m) 0 20 [nAV n ks] [] = some (.bool true, [])) : evI (cfg m) 0 4 [.str s, .bool false, l] [] = some (.bool true, []) := by
  exact E.evX (AV.bool true) ([]) [.c 1 0 hex, .c 6 1 hps, .c 9 1 hpt, .b 10 2 (decide_eq_true ((show (↑t.length : Int) > 256 from (by omega)))), .c 11 3 hr] (by kernel_rfl) (E.tlP (by kernel_rfl) rfl (E.shutT (v := AV.bool true) (v' := AV.bool true) (by kernel_rfl))) rfl

theorem rb_o {m : Int} {l : AV} {s t : List UInt8} {n : Node} {ks k2 : AV} {pl z : Int} (hex : evI (cfg m) 0 10 [] [] = some (.bool true, [])) (hps : evI (cfg m) 0 18 [.str s] [] = some (.tup [nAV n ks, .int .i64 pl, .int .i64 0], [])) (hpt : evI (cfg m) 0 19 [nAV n ks] [] = some (.str t, [])) (ht : ¬ 256 < t.length) (hps2 : evI (cfg m) 0 18 [.str t] [] = some (.tup [nAV n k2, .int .i64 (t.length : Int), .int .i64 0], [])) (hsm : evI (cfg m) 0 21 [nAV n ks, nAV n k2] [] = some (.bool true, [])) (hpt2 : evI (cfg m) 0 19 [nAV n k2] [] = some (.str t, [])) (hr : evI (cfg m) 0 20 [nAV n ks] [] = some (.bool true, [])) (hz : evI (cfg m) 0 22 [nAV n ks] [] = some (.int .i64 z, [])) (hz2 : evI (cfg m) 0 22 [nAV n k2] [] = some (.int .i64 z, [])) : evI (cfg m) 0 4 [.str s, .bool false, l] [] = some (.bool true, []) := by
  exact E.evX (AV.bool true) ([]) [.c 1 0 hex, .c 6 1 hps, .c 9 1 hpt, .b 10 2 (decide_eq_false ((show ¬(↑t.length : Int) > 256 from (by omega)))), .c 12 1 hps2, .c 13 8 hsm, .b 13 14 (beq_iff_eq.2 ((show (↑t.length : Int) = (↑t.length : Int) from rfl))), .c 13 18 hpt2, .b 13 20 (beq_iff_eq.2 ((show t = t from (by kernel_rfl)))), .c 13 24 hr, .c 13 28 hz, .c 13 30 hz2, .b 13 31 (beq_iff_eq.2 ((show z = z from rfl)))] (by kernel_rfl) (E.tlP (by kernel_rfl) rfl (E.shutT (v := AV.bool true) (v' := AV.bool true) (by kernel_rfl))) rfl
theorem ro_e {m : Int} {l : AV} {s0 s : List UInt8} {n : Node} {ks : AV} {pl er : Int} (hrx : evI (cfg m) 0 17 [l] [] = some (.str s, [])) (hex : evI (cfg m) 0 10 [] [] = some (.bool true, [])) (hps : evI (cfg m) 0 18 [.str s] [] = some (.tup [nAV n ks, .int .i64 pl, .int .i64 er], [])) (he : ¬ er = 0) (g1 : 0 ≤ pl) (g2 : pl ≤ bif true then bif decide ((s.length : Int) < 0) then 0 else (s.length : Int) else bif decide (0 < (s.length : Int)) then 0 else (s.length : Int)) (g3 : n.kind = 0) (g4 : IsSl 8 ks []) : evI (cfg m) 0 4 [.str s0, .bool true, l] [] = some (.bool true, []) := by
  exact E.evX (AV.bool true) ([]) [.c 1 0 hex, .c 5 1 hrx, .c 6 1 hps, .b 7 1 (bne_iff_ne.2 (he)), .b 8 3 (decide_eq_true (g1)), .b 8 10 (decide_eq_true (g2)), .b 8 15 (beq_iff_eq.2 (g3)), .m 8 20 (E.len_sl (C := cfg m) (t := 34) (ts' := []) (fl := 0) (ar := false) (hp := []) g4 (by kernel_rfl))] (by kernel_rfl) (E.tlP (by kernel_rfl) rfl (E.shutT (v := AV.bool true) (v' := AV.bool true) (by kernel_rfl))) rfl

theorem ro_l {m : Int} {l : AV} {s0 s t : List UInt8} {n : Node} {ks : AV} {pl : Int} (hrx : evI (cfg m) 0 17 [l] [] = some (.str s, [])) (hex : evI (cfg m) 0 10 [] [] = some (.bool true, [])) (hps : evI (cfg m) 0 18 [.str s] [] = some (.tup [nAV n ks, .int .i64 pl, .int .i64 0], [])) (hpt : evI (cfg m) 0 19 [nAV n ks] [] = some (.str t, [])) (ht : 256 < t.length) (hr : evI (cfg m) 0 20 [nAV n ks] [] = some (.bool true, [])) : evI (cfg m) 0 4 [.str s0, .bool true, l] [] = some (.bool true, []) := by
  exact E.evX (AV.bool true) ([]) [.c 1 0 hex, .c 5 1 hrx, .c 6 1 hps, .c 9 1 hpt, .b 10 2 (decide_eq_true ((show (↑t.length : Int) > 256 from (by omega)))), .c 11 3 hr] (by kernel_rfl) (E.tlP (by kernel_rfl) rfl (E.shutT (v := AV.bool true) (v' := AV.bool true) (by kernel_rfl))) rfl

theorem ro_o {m : Int} {l : AV} {s0 s t : List UInt8} {n : Node} {ks k2 : AV} {pl z : Int} (hrx : evI (cfg m) 0 17 [l] [] = some (.str s, [])) (hex : evI (cfg m) 0 10 [] [] = some (.bool true, [])) (hps : evI (cfg m) 0 18 [.str s] [] = some (.tup [nAV n ks, .int .i64 pl, .int .i64 0], [])) (hpt : evI (cfg m) 0 19 [nAV n ks] [] = some (.str t, [])) (ht : ¬ 256 < t.length) (hps2 : evI (cfg m) 0 18 [.str t] [] = some (.tup [nAV n k2, .int .i64 (t.length : Int), .int .i64 0], [])) (hsm : evI (cfg m) 0 21 [nAV n ks, nAV n k2] [] = some (.bool true, [])) (hpt2 : evI (cfg m) 0 19 [nAV n k2] [] = some (.str t, [])) (hr : evI (cfg m) 0 20 [nAV n ks] [] = some (.bool true, [])) (hz : evI (cfg m) 0 22 [nAV n ks] [] = some (.int .i64 z, [])) (hz2 : evI (cfg m) 0 22 [nAV n k2] [] = some (.int .i64 z, [])) : evI (cfg m) 0 4 [.str s0, .bool true, l] [] = some (.bool true, []) := by
  exact E.evX (AV.bool true) ([]) [.c 1 0 hex, .c 5 1 hrx, .c 6 1 hps, .c 9 1 hpt, .b 10 2 (decide_eq_false ((show ¬(↑t.length : Int) > 256 from (by omega)))), .c 12 1 hps2, .c 13 8 hsm, .b 13 14 (beq_iff_eq.2 ((show (↑t.length : Int) = (↑t.length : Int) from rfl))), .c 13 18 hpt2, .b 13 20 (beq_iff_eq.2 ((show t = t from (by kernel_rfl)))), .c 13 24 hr, .c 13 28 hz, .c 13 30 hz2, .b 13 31 (beq_iff_eq.2 ((show z = z from rfl)))] (by kernel_rfl) (E.tlP (by kernel_rfl) rfl (E.shutT (v := AV.bool true) (v' := AV.bool true) (by kernel_rfl))) rfl
end Go.Proofs.YtanopbolgfcojaaDoor.E.S4

/- The law RexBack. -/
namespace Go.Proofs.YtanopbolgfcojaaDoor.E.S4
open Go Go.Proofs E E.R
variable {s : List UInt8}
/-- what is wrong lies in the text -/
theorem atom_le {rec : Nat → Int → Rd} {p : Nat} {bad : Int} (hp : p < s.length) (hb : bad ≤ s.length) (hr : ∀ b : Int, b ≤ s.length → (rec (p + 1) b).2.2 ≤ s.length) : (atomF rec s p bad).2.2 ≤ s.length := by
  have h1 := hr bad hb
  unfold atomF
  dsimp only
  repeat' split
  all_goals dsimp only
  all_goals first | omega | (split <;> omega)
theorem times_le {n : Node} {q : Nat} {b : Int} (hq : q ≤ s.length) (hb : b ≤ s.length) : (pieceG s n q b).2.2 ≤ s.length := by
  unfold pieceG
  dsimp only
  repeat' split
  all_goals dsimp only
  all_goals first | omega | (split <;> omega)
theorem piece_le {rec : Nat → Int → Rd} {p : Nat} {bad : Int} (hp : p < s.length) (hb : bad ≤ s.length) (hr : ∀ b : Int, b ≤ s.length → (rec (p + 1) b).2.2 ≤ s.length) (hr1 : ∀ b, Btw s (p + 1) (rec (p + 1) b).2.1) : (pieceF rec s p bad).2.2 ≤ s.length :=
  times_le (atomF_b (bad := bad) hp hr1).2 (atom_le hp hb hr)
theorem loop_le {rec : Nat → Int → Rd} : ∀ (f p : Nat) (bad : Int) (A O : List Node), bad ≤ s.length → p ≤ s.length → (∀ (q : Nat) (b : Int), p < q → q ≤ s.length → b ≤ s.length → (rec q b).2.2 ≤ s.length) → (∀ q b, p < q → q ≤ s.length → Btw s q (rec q b).2.1) → (loopF rec s f p bad A O).2.2.2 ≤ s.length
  | 0, p, bad, A, O, h, _, _, _ => h
  | f + 1, p, bad, A, O, h, hp, hr, hr1 => by
    unfold loopF
    split
    · exact h
    · rename_i h1
      have h1' : bad < 0 ∧ p < s.length := Decidable.byContradiction fun g => h1 g
      split
      · exact h
      · split
        · rename_i h3
          have e : eatP s p bad 124 = p + 1 := eatP_t h3
          rw [e]
          exact loop_le f _ _ _ _ h h1'.2 (fun q b h4 => hr q b (by omega)) (fun q b h4 => hr1 q b (by omega))
        · rename_i h3
          have e : eatP s p bad 124 = p := eatP_f h3
          dsimp only
          rw [e]
          have hb := pieceF_b (bad := bad) (rec := rec) h1'.2 (fun b => hr1 (p + 1) b (by omega) h1'.2)
          exact loop_le f _ _ _ _ (piece_le h1'.2 h (fun b => hr (p + 1) b (by omega) h1'.2) (fun b => hr1 (p + 1) b (by omega) h1'.2)) hb.2 (fun q b h4 => hr q b (by have := hb.1; omega)) (fun q b h4 => hr1 q b (by have := hb.1; omega))
theorem alt_le : ∀ (f p : Nat) (bad : Int), bad ≤ s.length → p ≤ s.length → (altF s f p bad).2.2 ≤ s.length
  | 0, p, bad, h, _ => h
  | f + 1, p, bad, h, hp => by
    unfold altF
    exact loop_le _ _ _ _ _ h hp (fun q b _ h2 h3 => alt_le f q b h3 h2) (fun q b _ h2 => (altF_all f q b h2).1)
/-- what Parse tells: right, or where it is wrong -/
theorem parse_tells (t : List UInt8) : ((∃ n, parseM t = (n, t.length, 0) ∧ t.length ≤ 256 ∧ Norm 772 n ∧ n.lw ≤ 257 ∧ n.size ≤ 200 ∧ rdA t = some (n, []))) ∨ (∃ q e, parseM t = (.empty, q, e) ∧ e ≠ 0 ∧ q ≤ t.length) := by
  by_cases hl : 256 < t.length
  · exact .inr ⟨256, 4, by unfold parseM; rw [if_pos hl], by decide, by omega⟩
  · obtain ⟨h1, h2, h3⟩ := parse_L (t := t) (by omega)
    by_cases hn : ∃ n, rdA t = some (n, [])
    · obtain ⟨n, hn⟩ := hn
      by_cases hz : n.size ≤ 200
      · refine .inl ⟨n, h1 n hn hz, by omega, ?_, ?_, hz, hn⟩
        · obtain ⟨d, hd⟩ := rdA_norm _ _ _ hn
          have ha := altF_all (s := t) 257 0 (-1) (by omega)
          have hL := alt_L (s := t) 257 0 (-1) (by omega) (by omega) (by omega)
          rw [List.drop_zero, alt_fuel 257 (t.length + 1) t (by omega) (by omega)] at hL
          rw [show altL (t.length + 1) t = some (n, []) from hn] at hL
          rw [hL.1] at ha
          exact hd.of_dep ha.2.2
        · have ha := altF_all (s := t) 257 0 (-1) (by omega)
          have hL := alt_L (s := t) 257 0 (-1) (by omega) (by omega) (by omega)
          rw [List.drop_zero, alt_fuel 257 (t.length + 1) t (by omega) (by omega)] at hL
          rw [show altL (t.length + 1) t = some (n, []) from hn] at hL
          rw [hL.1] at ha
          have := ha.1.2
          have := ha.2.1
          omega
      · exact .inr ⟨t.length, 4, h2 n hn (by omega), by decide, by omega⟩
    · obtain ⟨g1, g2⟩ := h3 fun n h => hn ⟨n, h⟩
      refine .inr ⟨(parseM t).2.1, 2, by rw [← g1, ← g2], by decide, ?_⟩
      have hb := alt_le (s := t) 257 0 (-1) (by omega) (by omega)
      have ha := (altF_all (s := t) 257 0 (-1) (by omega)).1.2
      unfold parseM
      rw [if_neg hl]
      split
      · dsimp only; omega
      split
      · dsimp only; exact ha
      split
      · exact Nat.le_refl _
      · exact Nat.le_refl _
theorem mxl {p n : Nat} (h : p ≤ n) : (p : Int) ≤ bif true then bif decide ((n : Int) < 0) then 0 else (n : Int) else bif decide (0 < (n : Int)) then 0 else (n : Int) := by
  rw [cond_true rfl, cond_false (decide_eq_false (by omega))]
  omega
theorem kids_nil {ks : AV} (h : KidsR [] ks) : IsSl 8 ks [] := by
  obtain ⟨vs, h1, h2⟩ := h
  have : vs = [] := List.eq_nil_of_length_eq_zero (by simpa using h2.1)
  rw [← this]; exact h1
/-- what is put of what was read -/
theorem put_back {m : Int} {n : Node} {ks : AV} (hn : Norm 772 n) (hl : n.lw ≤ 257) (hz : n.size ≤ 200) (hk : KidsR n.kids ks) : ∃ t, evI (cfg m) 0 19 [nAV n ks] [] = some (.str t, []) ∧ evI (cfg m) 0 20 [nAV n ks] [] = some (.bool true, []) ∧ evI (cfg m) 0 22 [nAV n ks] [] = some (.int .i64 n.size, []) ∧ (¬ 256 < t.length → ∃ k2, evI (cfg m) 0 18 [.str t] [] = some (.tup [nAV n k2, .int .i64 (t.length : Int), .int .i64 0], []) ∧ evI (cfg m) 0 21 [nAV n ks, nAV n k2] [] = some (.bool true, []) ∧ evI (cfg m) 0 19 [nAV n k2] [] = some (.str t, []) ∧ evI (cfg m) 0 22 [nAV n k2] [] = some (.int .i64 n.size, [])) := by
  refine ⟨n.put, put_ok _ hn.fine hk (by omega) (by omega), right_ok _ hn hk (by omega), size_ok _ hn.dep hk (by omega), fun ht => ?_⟩
  have he := (expr_ok _ n hn).1 [] (.inl rfl)
  rw [List.append_nil] at he
  have hp := (parse_L (t := n.put) (by omega)).1 n he hz
  obtain ⟨k2, g1, g2⟩ := parse_ok (m := m) (fl := 0) (hp := []) (s := n.put) (by omega) rfl
  rw [hp] at g1 g2
  exact ⟨k2, g1, same_ok _ hn.dep hk g2 (by omega), put_ok _ hn.fine g2 (by omega) (by omega), size_ok _ hn.dep g2 (by omega)⟩
theorem back_law {m : Int} {l : AV} {s : List UInt8} {own : Bool} {bs : List UInt8} (hex : evI (cfg m) 0 10 [] [] = some (.bool true, [])) (hl : IsSl 1 l (bsV bs)) (hs : s.length ≤ 9223372036854775807) : evI (cfg m) 0 4 [.str s, .bool own, l] [] = some (.bool true, []) := by
  cases own with
  | false =>
    obtain ⟨ks, a1, a2⟩ := parse_ok (m := m) (fl := 0) (hp := []) (s := s) hs rfl
    rcases parse_tells s with ⟨n, h1, h2, h3, h4, h5, _⟩ | ⟨q, e, h1, h2, h3⟩
    · rw [h1] at a1 a2
      obtain ⟨t, b1, b2, b3, b4⟩ := put_back (m := m) h3 h4 h5 a2
      by_cases ht : 256 < t.length
      · exact rb_l hex a1 b1 ht b2
      · obtain ⟨k2, c1, c2, c3, c4⟩ := b4 ht
        exact rb_o hex a1 b1 ht c1 c2 c3 b2 b3 c4
    · rw [h1] at a1 a2
      exact rb_e hex a1 h2 (by omega) (mxl h3) rfl (kids_nil a2)
  | true =>
    have hr := rexes_ok (m := m) (fl := 0) (hp := []) hl
    have hs := rexes_len bs
    obtain ⟨ks, a1, a2⟩ := parse_ok (m := m) (fl := 0) (hp := []) (s := rexesF bs) (by omega) rfl
    rcases parse_tells (rexesF bs) with ⟨n, h1, h2, h3, h4, h5, _⟩ | ⟨q, e, h1, h2, h3⟩
    · rw [h1] at a1 a2
      obtain ⟨t, b1, b2, b3, b4⟩ := put_back (m := m) h3 h4 h5 a2
      by_cases ht : 256 < t.length
      · exact ro_l hr hex a1 b1 ht b2
      · obtain ⟨k2, c1, c2, c3, c4⟩ := b4 ht
        exact ro_o hr hex a1 b1 ht c1 c2 c3 b2 b3 c4
    · rw [h1] at a1 a2
      exact ro_e hr hex a1 h2 (by omega) (mxl h3) rfl (kids_nil a2)
end Go.Proofs.YtanopbolgfcojaaDoor.E.S4

/- The document's examples: a node that is put. -/
namespace Go.Proofs.YtanopbolgfcojaaDoor.E.S4
open Go Go.Proofs E E.R
def exA : Node := .one ⟨0, 8589934592, 0, 0⟩
def exB : Node := .one ⟨0, 17179869184, 0, 0⟩
def exC : Node := .one ⟨0, 60129542144, 0, 0⟩
def exR : Node := .mk 6 W4.zero 0 (-1) [exB]
def exK : Node := .mk 4 W4.zero 0 0 [exA, exR]
def exN : Node := .mk 5 W4.zero 0 0 [exK, exC]
theorem exN_norm : Norm 5 exN := by
  have one : ∀ (s : W4) d, s ≠ W4.zero → Norm (d + 1) (.one s) := fun s d h => ⟨.one s h, fun k hk => by cases hk⟩
  have hA : ∀ d, Norm (d + 1) exA := fun d => one _ d (by decide)
  have hB : ∀ d, Norm (d + 1) exB := fun d => one _ d (by decide)
  have hC : ∀ d, Norm (d + 1) exC := fun d => one _ d (by decide)
  have hR : ∀ d, Norm (d + 2) exR := fun d => ⟨.rep 0 (-1) exB (by decide) (by decide) (.inl rfl), fun k hk => by
    have : k = exB := by simpa [exR, Node.kids] using hk
    rw [this]; exact hB d⟩
  have hK : ∀ d, Norm (d + 3) exK := fun d => ⟨.cat [exA, exR] (by decide) (fun k hk => by
    rcases List.mem_cons.1 hk with rfl | hk
    · exact ⟨by decide, by decide⟩
    · have : k = exR := by simpa using hk
      rw [this]; exact ⟨by decide, by decide⟩), fun k hk => by
    rcases List.mem_cons.1 hk with rfl | hk
    · exact hA _
    · have : k = exR := by simpa using hk
      rw [this]; exact hR d⟩
  exact ⟨.alt [exK, exC] (by decide) (fun k hk => by
    rcases List.mem_cons.1 hk with rfl | hk
    · decide
    · have : k = exC := by simpa using hk
      rw [this]; decide), fun k hk => by
    rcases List.mem_cons.1 hk with rfl | hk
    · exact hK 1
    · have : k = exC := by simpa using hk
      rw [this]; exact hC 3⟩
theorem ex_put {m : Int} {fl : Nat} {hp : List Blk} : evI (cfg m) fl 19 [AV.agg [.int .i64 5, .int .u64 0, .int .u64 0, .int .u64 0, .int .u64 0, .int .i64 0, .int .i64 0, AV.lit 8 Own.sealed [AV.agg [.int .i64 4, .int .u64 0, .int .u64 0, .int .u64 0, .int .u64 0, .int .i64 0, .int .i64 0, AV.lit 8 Own.sealed [AV.agg [.int .i64 1, .int .u64 0, .int .u64 8589934592, .int .u64 0, .int .u64 0, .int .i64 0, .int .i64 0, AV.nilS], AV.agg [.int .i64 6, .int .u64 0, .int .u64 0, .int .u64 0, .int .u64 0, .int .i64 0, .int .i64 (-1), AV.lit 8 Own.exact [AV.agg [.int .i64 1, .int .u64 0, .int .u64 17179869184, .int .u64 0, .int .u64 0, .int .i64 0, .int .i64 0, AV.nilS]]]]], AV.agg [.int .i64 1, .int .u64 0, .int .u64 60129542144, .int .u64 0, .int .u64 0, .int .i64 0, .int .i64 0, AV.nilS]]]] hp = some (.str [97, 98, 42, 124, 91, 97, 45, 99, 93], hp) := by
  have kB : KidsR exR.kids (.lit 8 .exact [nAV exB .nilS]) := kone kn
  have cA : NodeR exA (nAV exA .nilS) := .of kn
  have cC : NodeR exC (nAV exC .nilS) := .of kn
  have cR : NodeR exR (nAV exR (.lit 8 .exact [nAV exB .nilS])) := .of kB
  have kK : KidsR exK.kids (.lit 8 .sealed [nAV exA .nilS, nAV exR (.lit 8 .exact [nAV exB .nilS])]) := ⟨_, .lit _ _ _, (NodesR.one cA).app (NodesR.one cR)⟩
  have cK : NodeR exK (nAV exK (.lit 8 .sealed [nAV exA .nilS, nAV exR (.lit 8 .exact [nAV exB .nilS])])) := .of kK
  have kN : KidsR exN.kids (.lit 8 .sealed [nAV exK (.lit 8 .sealed [nAV exA .nilS, nAV exR (.lit 8 .exact [nAV exB .nilS])]), nAV exC .nilS]) := ⟨_, .lit _ _ _, (NodesR.one cK).app (NodesR.one cC)⟩
  have h := put_ok (m := m) (fl := fl) (hp := hp) 5 exN_norm.fine kN (by decide) (by decide)
  rw [show exN.put = [97, 98, 42, 124, 91, 97, 45, 99, 93] by decide +kernel] at h
  exact h
end Go.Proofs.YtanopbolgfcojaaDoor.E.S4

/- The document's examples are right: the head. -/
namespace Go.Proofs.YtanopbolgfcojaaDoor.E.S4
open Go Go.Proofs E E.R PC
theorem HC_ex0_0 {m : Int} : evI (cfg m) 0 18 [AV.str [40, 97, 41, 98, 42, 124, 91, 97, 45, 99, 93]] [] = some (AV.tup [AV.agg [AI 5, AW 0, AW 0, AW 0, AW 0, AI 0, AI 0, AV.lit 8 Own.sealed [AV.agg [AI 4, AW 0, AW 0, AW 0, AW 0, AI 0, AI 0, AV.lit 8 Own.sealed [AV.agg [AI 1, AW 0, AW 8589934592, AW 0, AW 0, AI 0, AI 0, AV.nilS], AV.agg [AI 6, AW 0, AW 0, AW 0, AW 0, AI 0, AI (-1), AV.lit 8 Own.exact [AV.agg [AI 1, AW 0, AW 17179869184, AW 0, AW 0, AI 0, AI 0, AV.nilS]]]]], AV.agg [AI 1, AW 0, AW 60129542144, AW 0, AW 0, AI 0, AI 0, AV.nilS]]], AI 11, AI 0], []) := evI_of (k := 3000) (by kernel_rfl)
theorem HC_ex0_1 {m : Int} : evI (cfg m) 0 18 [AV.str [97, 41]] [] = some (AV.tup [AV.agg [AI 0, AW 0, AW 0, AW 0, AW 0, AI 0, AI 0, AV.nilS], AI 1, AI 2], []) := evI_of (k := 3000) (by kernel_rfl)
theorem HC_ex0_2 {m : Int} : evI (cfg m) 0 18 [AV.str [40, 97]] [] = some (AV.tup [AV.agg [AI 0, AW 0, AW 0, AW 0, AW 0, AI 0, AI 0, AV.nilS], AI 2, AI 2], []) := evI_of (k := 3000) (by kernel_rfl)
theorem HC_ex0_3 {m : Int} : evI (cfg m) 0 18 [AV.str [97, 42, 42]] [] = some (AV.tup [AV.agg [AI 0, AW 0, AW 0, AW 0, AW 0, AI 0, AI 0, AV.nilS], AI 2, AI 2], []) := evI_of (k := 3000) (by kernel_rfl)
theorem HC_ex0_4 {m : Int} : evI (cfg m) 0 18 [AV.str [40, 40, 40, 97, 123, 50, 48, 125, 41, 123, 50, 48, 125, 41, 41]] [] = some (AV.tup [AV.agg [AI 0, AW 0, AW 0, AW 0, AW 0, AI 0, AI 0, AV.nilS], AI 15, AI 4], []) := evI_of (k := 3000) (by kernel_rfl)
theorem HC_ex0_5 {m : Int} : evI (cfg m) 0 22 [AV.agg [AI 5, AW 0, AW 0, AW 0, AW 0, AI 0, AI 0, AV.lit 8 Own.sealed [AV.agg [AI 4, AW 0, AW 0, AW 0, AW 0, AI 0, AI 0, AV.lit 8 Own.sealed [AV.agg [AI 1, AW 0, AW 8589934592, AW 0, AW 0, AI 0, AI 0, AV.nilS], AV.agg [AI 6, AW 0, AW 0, AW 0, AW 0, AI 0, AI (-1), AV.lit 8 Own.exact [AV.agg [AI 1, AW 0, AW 17179869184, AW 0, AW 0, AI 0, AI 0, AV.nilS]]]]], AV.agg [AI 1, AW 0, AW 60129542144, AW 0, AW 0, AI 0, AI 0, AV.nilS]]]] [] = some (AI 5, []) := evI_of (k := 3000) (by kernel_rfl)
theorem HC_ex0_6 {m : Int} : evI (cfg m) 0 20 [AV.agg [AI 5, AW 0, AW 0, AW 0, AW 0, AI 0, AI 0, AV.lit 8 Own.sealed [AV.agg [AI 4, AW 0, AW 0, AW 0, AW 0, AI 0, AI 0, AV.lit 8 Own.sealed [AV.agg [AI 1, AW 0, AW 8589934592, AW 0, AW 0, AI 0, AI 0, AV.nilS], AV.agg [AI 6, AW 0, AW 0, AW 0, AW 0, AI 0, AI (-1), AV.lit 8 Own.exact [AV.agg [AI 1, AW 0, AW 17179869184, AW 0, AW 0, AI 0, AI 0, AV.nilS]]]]], AV.agg [AI 1, AW 0, AW 60129542144, AW 0, AW 0, AI 0, AI 0, AV.nilS]]]] [] = some (AV.bool true, []) := evI_of (k := 3000) (by kernel_rfl)
theorem HC_ex0_7 {m : Int} : evI (cfg m) 0 21 [AV.agg [AI 5, AW 0, AW 0, AW 0, AW 0, AI 0, AI 0, AV.lit 8 Own.sealed [AV.agg [AI 4, AW 0, AW 0, AW 0, AW 0, AI 0, AI 0, AV.lit 8 Own.sealed [AV.agg [AI 1, AW 0, AW 8589934592, AW 0, AW 0, AI 0, AI 0, AV.nilS], AV.agg [AI 6, AW 0, AW 0, AW 0, AW 0, AI 0, AI (-1), AV.lit 8 Own.exact [AV.agg [AI 1, AW 0, AW 17179869184, AW 0, AW 0, AI 0, AI 0, AV.nilS]]]]], AV.agg [AI 1, AW 0, AW 60129542144, AW 0, AW 0, AI 0, AI 0, AV.nilS]]], AV.agg [AI 5, AW 0, AW 0, AW 0, AW 0, AI 0, AI 0, AV.lit 8 Own.sealed [AV.agg [AI 4, AW 0, AW 0, AW 0, AW 0, AI 0, AI 0, AV.lit 8 Own.sealed [AV.agg [AI 1, AW 0, AW 8589934592, AW 0, AW 0, AI 0, AI 0, AV.nilS], AV.agg [AI 6, AW 0, AW 0, AW 0, AW 0, AI 0, AI (-1), AV.lit 8 Own.exact [AV.agg [AI 1, AW 0, AW 17179869184, AW 0, AW 0, AI 0, AI 0, AV.nilS]]]]], AV.agg [AI 1, AW 0, AW 60129542144, AW 0, AW 0, AI 0, AI 0, AV.nilS]]]] [] = some (AV.bool true, []) := evI_of (k := 3000) (by kernel_rfl)
theorem HC_ex0_8 {m : Int} : evI (cfg m) 0 11 [AV.agg [AW 0, AW 0, AW 0, AW 0], AU 5, AU 7] [] = some (AV.agg [AW 224, AW 0, AW 0, AW 0], []) := evI_of (k := 3000) (by kernel_rfl)
theorem HC_ex0_9 {m : Int} : evI (cfg m) 0 15 [AV.agg [AW 224, AW 0, AW 0, AW 0]] [] = some (AI 3, []) := evI_of (k := 3000) (by kernel_rfl)
theorem HC_ex0_10 {m : Int} : evI (cfg m) 0 13 [AV.agg [AW 224, AW 0, AW 0, AW 0], AU 6] [] = some (AV.bool true, []) := evI_of (k := 3000) (by kernel_rfl)
theorem ex0 {m : Int} : evI (cfg m) 0 10 [] [] = some (.bool true, []) := by
  exact E.evX (AV.bool true) ([]) [.c 1 0 (HC_ex0_0 (m := m)), .c 2 0 (HC_ex0_1 (m := m)), .c 3 0 (HC_ex0_2 (m := m)), .c 4 0 (HC_ex0_3 (m := m)), .c 5 0 (HC_ex0_4 (m := m)), .c 6 8 (E.S4.ex_put (m := m) (fl := 0) (hp := [])), .c 6 13 (HC_ex0_5 (m := m)), .c 6 18 (HC_ex0_6 (m := m)), .c 6 23 (HC_ex0_7 (m := m)), .c 6 55 (HC_ex0_8 (m := m)), .c 6 56 (HC_ex0_9 (m := m)), .c 6 61 (HC_ex0_8 (m := m)), .c 6 62 (HC_ex0_10 (m := m))] (by kernel_rfl) (E.tlP (by kernel_rfl) rfl (E.shutT (v := AV.bool true) (v' := AV.bool true) (by kernel_rfl))) rfl
end Go.Proofs.YtanopbolgfcojaaDoor.E.S4

/- What a well formed whole number's range is. -/
namespace Go.Proofs.YtanopbolgfcojaaDoor.E.S4
open Go
theorem rngI64 {a : Int} (h : (Lit.int .i64 a).wf = true) : -9223372036854775808 ≤ a ∧ a ≤ 9223372036854775807 := by
  simp [Lit.wf, IntKind.min, IntKind.max, IntKind.signed, IntKind.bits] at h
  exact ⟨by omega, by omega⟩
theorem rngI32 {a : Int} (h : (Lit.int .i32 a).wf = true) : -2147483648 ≤ a ∧ a ≤ 2147483647 := by
  simp [Lit.wf, IntKind.min, IntKind.max, IntKind.signed, IntKind.bits] at h
  omega
theorem rngU32 {a : Int} (h : (Lit.int .u32 a).wf = true) : 0 ≤ a ∧ a ≤ 4294967295 := by
  simp [Lit.wf, IntKind.min, IntKind.max, IntKind.signed, IntKind.bits] at h
  omega
theorem rngU16 {a : Int} (h : (Lit.int .u16 a).wf = true) : 0 ≤ a ∧ a ≤ 65535 := by
  simp [Lit.wf, IntKind.min, IntKind.max, IntKind.signed, IntKind.bits] at h
  omega
theorem rngU8 {a : Int} (h : (Lit.int .u8 a).wf = true) : 0 ≤ a ∧ a ≤ 255 := by
  simp [Lit.wf, IntKind.min, IntKind.max, IntKind.signed, IntKind.bits] at h
  omega
end Go.Proofs.YtanopbolgfcojaaDoor.E.S4

/- The law RexBack, of any arguments. -/
namespace Go.Proofs.YtanopbolgfcojaaDoor.E.S4
open Go Go.Proofs E E.R
theorem u8_ofI {a : Int} (h : 0 ≤ a ∧ a ≤ 255) : ∃ k : UInt8, ((k.toNat : Nat) : Int) = a := by
  refine ⟨UInt8.ofNat a.toNat, ?_⟩
  rw [UInt8.toNat_ofNat_of_lt' (by show a.toNat < 256; omega)]
  omega
/-- bytes that came in -/
theorem bytes_of {x : AV} {m : Int} (h : Sh (cfg m) 6 32 x) : ∃ bs : List UInt8, IsSl 1 x (bsV bs) := by
  have e1 : (cfg m).ty 32 = some ⟨.slice 5, 1, 24, [.nilS], false⟩ := by kernel_rfl
  have e2 : (cfg m).ty 5 = some ⟨.int .u8, 1, 1, [.int .u8 0], true⟩ := by kernel_rfl
  unfold Sh at h
  rw [e1] at h
  rcases h with rfl | ⟨xs, rfl, hlen, hx⟩
  · exact ⟨[], .nil _⟩
  · have : ∃ bs : List UInt8, xs = bsV bs := by
      clear e1 hlen
      induction xs with
      | nil => exact ⟨[], rfl⟩
      | cons y ys ih =>
        obtain ⟨bs, hb⟩ := ih fun z hz => hx z (by simp [hz])
        have hy := hx y (by simp)
        unfold Sh at hy
        rw [e2] at hy
        obtain ⟨n, rfl, hw⟩ := hy
        obtain ⟨k, hk⟩ := u8_ofI (rngU8 hw)
        exact ⟨k :: bs, by simp [bsV, hb, hk]⟩
    obtain ⟨bs, rfl⟩ := this
    have hs : sizeT (cfg m) 5 = 1 := by unfold sizeT; rw [e2]
    rw [hs]
    exact ⟨bs, .lit _ _ _⟩
theorem back_all (s : List UInt8) (own : Bool) (x : AV) (hs : s.length ≤ 9223372036854775807) (hx : Sh (cfg 0) 6 32 x) : evI (cfg 0) 0 4 [.str s, .bool own, x] [] = some (.bool true, []) := by
  obtain ⟨bs, hb⟩ := bytes_of hx
  exact back_law ex0 hb hs
end Go.Proofs.YtanopbolgfcojaaDoor.E.S4

/- Any set has, with more, the bytes that the chapter says: the law. -/
namespace Go.Proofs.YtanopbolgfcojaaDoor.E.S4
open Go Go.Proofs E E.R PC
theorem sets_law {m : Int} {s : W4} {lo hi b : UInt8} (hex : evI (cfg m) 0 10 [] [] = some (.bool true, [])) : evI (cfg m) 0 3 [.agg [wAV s.a, wAV s.b, wAV s.c, wAV s.d], .int .u8 lo.toNat, .int .u8 hi.toNat, .int .u8 b.toNat] [] = some (.bool true, []) := by
  rcases E.bcases (s.has b.toNat) with h1 | h1
  · exact E.evX (AV.bool true) ([]) [.c 1 0 hex, .c 4 3 (E.S4.with11 (m := m) (fl := 0) (hp := []) (lo := lo) (hi := hi) (a := s.a) (b := s.b) (c := s.c) (d := s.d)), .c 5 3 (E.S4.with12 (m := m) (fl := 0) (hp := []) (lo := lo) (hi := hi) (a := s.a) (b := s.b) (c := s.c) (d := s.d)), .vb 6 4 (E.eqW4 (C := cfg m) (t := 27) (cst := false) (a := ((W4.mk s.a s.b s.c s.d).with lo hi).a) (b := ((W4.mk s.a s.b s.c s.d).with lo hi).b) (c := ((W4.mk s.a s.b s.c s.d).with lo hi).c) (d := ((W4.mk s.a s.b s.c s.d).with lo hi).d) (a' := ((W4.mk s.a s.b s.c s.d).with lo hi).a) (b' := ((W4.mk s.a s.b s.c s.d).with lo hi).b) (c' := ((W4.mk s.a s.b s.c s.d).with lo hi).c) (d' := ((W4.mk s.a s.b s.c s.d).with lo hi).d) (by kernel_rfl)) (decide_eq_true ((show W4.mk ((W4.mk s.a s.b s.c s.d).with lo hi).a ((W4.mk s.a s.b s.c s.d).with lo hi).b ((W4.mk s.a s.b s.c s.d).with lo hi).c ((W4.mk s.a s.b s.c s.d).with lo hi).d = W4.mk ((W4.mk s.a s.b s.c s.d).with lo hi).a ((W4.mk s.a s.b s.c s.d).with lo hi).b ((W4.mk s.a s.b s.c s.d).with lo hi).c ((W4.mk s.a s.b s.c s.d).with lo hi).d from (by kernel_rfl)))), .cb 6 9 (E.S4.has13 (m := m) (fl := 0) (hp := []) (s := s) (x := b)) h1, .cb 6 12 (E.S4.has14 (m := m) (fl := 0) (hp := []) (s := s) (x := b)) h1, .c 6 17 (E.S4.many_ok (m := m) (fl := 0) (hp := []) (s := s)), .c 6 19 (E.S4.rmany_ok (m := m) (fl := 0) (hp := []) (s := s)), .b 6 20 (beq_iff_eq.2 ((show (↑(W4.cntTo s 256) : Int) = (↑(W4.cntTo s 256) : Int) from rfl))), .c 6 24 (E.S4.many_ok (m := m) (fl := 0) (hp := []) (s := (W4.mk s.a s.b s.c s.d).with lo hi)), .c 6 26 (E.S4.rmany_ok (m := m) (fl := 0) (hp := []) (s := (W4.mk s.a s.b s.c s.d).with lo hi)), .b 6 27 (beq_iff_eq.2 ((show (↑(W4.cntTo ((W4.mk s.a s.b s.c s.d).with lo hi) 256) : Int) = (↑(W4.cntTo ((W4.mk s.a s.b s.c s.d).with lo hi) 256) : Int) from rfl)))] (by kernel_rfl) (E.tlP (by kernel_rfl) rfl (E.shutT (v := AV.bool true) (v' := AV.bool true) (by kernel_rfl))) rfl
  · exact E.evX (AV.bool true) ([]) [.c 1 0 hex, .c 4 3 (E.S4.with11 (m := m) (fl := 0) (hp := []) (lo := lo) (hi := hi) (a := s.a) (b := s.b) (c := s.c) (d := s.d)), .c 5 3 (E.S4.with12 (m := m) (fl := 0) (hp := []) (lo := lo) (hi := hi) (a := s.a) (b := s.b) (c := s.c) (d := s.d)), .vb 6 4 (E.eqW4 (C := cfg m) (t := 27) (cst := false) (a := ((W4.mk s.a s.b s.c s.d).with lo hi).a) (b := ((W4.mk s.a s.b s.c s.d).with lo hi).b) (c := ((W4.mk s.a s.b s.c s.d).with lo hi).c) (d := ((W4.mk s.a s.b s.c s.d).with lo hi).d) (a' := ((W4.mk s.a s.b s.c s.d).with lo hi).a) (b' := ((W4.mk s.a s.b s.c s.d).with lo hi).b) (c' := ((W4.mk s.a s.b s.c s.d).with lo hi).c) (d' := ((W4.mk s.a s.b s.c s.d).with lo hi).d) (by kernel_rfl)) (decide_eq_true ((show W4.mk ((W4.mk s.a s.b s.c s.d).with lo hi).a ((W4.mk s.a s.b s.c s.d).with lo hi).b ((W4.mk s.a s.b s.c s.d).with lo hi).c ((W4.mk s.a s.b s.c s.d).with lo hi).d = W4.mk ((W4.mk s.a s.b s.c s.d).with lo hi).a ((W4.mk s.a s.b s.c s.d).with lo hi).b ((W4.mk s.a s.b s.c s.d).with lo hi).c ((W4.mk s.a s.b s.c s.d).with lo hi).d from (by kernel_rfl)))), .cb 6 9 (E.S4.has13 (m := m) (fl := 0) (hp := []) (s := s) (x := b)) h1, .cb 6 12 (E.S4.has14 (m := m) (fl := 0) (hp := []) (s := s) (x := b)) h1, .c 6 17 (E.S4.many_ok (m := m) (fl := 0) (hp := []) (s := s)), .c 6 19 (E.S4.rmany_ok (m := m) (fl := 0) (hp := []) (s := s)), .b 6 20 (beq_iff_eq.2 ((show (↑(W4.cntTo s 256) : Int) = (↑(W4.cntTo s 256) : Int) from rfl))), .c 6 24 (E.S4.many_ok (m := m) (fl := 0) (hp := []) (s := (W4.mk s.a s.b s.c s.d).with lo hi)), .c 6 26 (E.S4.rmany_ok (m := m) (fl := 0) (hp := []) (s := (W4.mk s.a s.b s.c s.d).with lo hi)), .b 6 27 (beq_iff_eq.2 ((show (↑(W4.cntTo ((W4.mk s.a s.b s.c s.d).with lo hi) 256) : Int) = (↑(W4.cntTo ((W4.mk s.a s.b s.c s.d).with lo hi) 256) : Int) from rfl)))] (by kernel_rfl) (E.tlP (by kernel_rfl) rfl (E.shutT (v := AV.bool true) (v' := AV.bool true) (by kernel_rfl))) rfl

theorem bv_of {n : Int} (h : (Lit.int .u64 n).wf = true) : ∃ x : BitVec 64, AV.int .u64 n = wAV x := by
  simp [Lit.wf, IntKind.min, IntKind.max, IntKind.signed, IntKind.bits] at h
  refine ⟨BitVec.ofNat 64 n.toNat, ?_⟩
  have : (BitVec.ofNat 64 n.toNat).toNat = n.toNat := by rw [BitVec.toNat_ofNat]; exact Nat.mod_eq_of_lt (by omega)
  show AV.int .u64 n = AV.int .u64 _
  rw [this]; congr 1; omega
theorem u8_of {a : Int} (h : 0 ≤ a ∧ a ≤ 255) : ∃ k : UInt8, ((k.toNat : Nat) : Int) = a := by
  refine ⟨UInt8.ofNat a.toNat, ?_⟩
  rw [UInt8.toNat_ofNat_of_lt' (by show a.toNat < 256; omega)]
  omega
/-- a set of bytes that came in -/
theorem set_of {x : AV} {m : Int} (h : Sh (cfg m) 6 24 x) : ∃ s : W4, x = .agg s.av := by
  have e1 : (cfg m).ty 24 = some ⟨.array 4 22, 4, 32, [.int .u64 0, .int .u64 0, .int .u64 0, .int .u64 0], true⟩ := by kernel_rfl
  have e2 : (cfg m).ty 22 = some ⟨.int .u64, 1, 8, [.int .u64 0], true⟩ := by kernel_rfl
  unfold Sh at h
  rw [e1] at h
  obtain ⟨cs, rfl, hl, hc⟩ := h
  obtain ⟨a, b, c, d, rfl⟩ : ∃ a b c d, cs = [a, b, c, d] := by
    match cs, hl with
    | [a, b, c, d], _ => exact ⟨a, b, c, d, rfl⟩
  have get : ∀ (i : Nat) (y : AV), i < 4 → getAt [a, b, c, d] i = some y → ∃ z : BitVec 64, y = wAV z := by
    intro i y hi hy
    obtain ⟨ei, u, h1, h2, h3⟩ := hc i hi
    rw [e2] at h1; cases h1
    unfold Sh at h3
    rw [e2] at h3
    obtain ⟨n, rfl, hw⟩ := h3
    obtain ⟨z, hz⟩ := bv_of hw
    refine ⟨z, ?_⟩
    simp only [part, TK.agg, cond_false rfl, Nat.mul_one] at h2
    rw [hy] at h2
    rw [← hz]; exact Option.some.inj h2
  obtain ⟨a', rfl⟩ := get 0 a (by omega) rfl
  obtain ⟨b', rfl⟩ := get 1 b (by omega) rfl
  obtain ⟨c', rfl⟩ := get 2 c (by omega) rfl
  obtain ⟨d', rfl⟩ := get 3 d (by omega) rfl
  exact ⟨⟨a', b', c', d'⟩, rfl⟩
theorem sets_all (x : AV) (a1 a2 a3 : Int) (h1 : 0 ≤ a1 ∧ a1 ≤ 255) (h2 : 0 ≤ a2 ∧ a2 ≤ 255) (h3 : 0 ≤ a3 ∧ a3 ≤ 255) (hx : Sh (cfg 0) 6 24 x) (hex : evI (cfg 0) 0 10 [] [] = some (.bool true, [])) : evI (cfg 0) 0 3 [x, .int .u8 a1, .int .u8 a2, .int .u8 a3] [] = some (.bool true, []) := by
  obtain ⟨s, rfl⟩ := set_of hx
  obtain ⟨l, rfl⟩ := u8_of h1
  obtain ⟨k, rfl⟩ := u8_of h2
  obtain ⟨b, rfl⟩ := u8_of h3
  exact sets_law hex
end Go.Proofs.YtanopbolgfcojaaDoor.E.S4

/- The law of sets with its head. -/
namespace Go.Proofs.YtanopbolgfcojaaDoor.E.S4
open Go Go.Proofs E E.R PC
theorem sets_all' (x : AV) (a1 a2 a3 : Int) (hx : Sh (cfg 0) 6 24 x) (h1 : 0 ≤ a1 ∧ a1 ≤ 255) (h2 : 0 ≤ a2 ∧ a2 ≤ 255) (h3 : 0 ≤ a3 ∧ a3 ≤ 255) : evI (cfg 0) 0 3 [x, .int .u8 a1, .int .u8 a2, .int .u8 a3] [] = some (.bool true, []) :=
  sets_all x a1 a2 a3 h1 h2 h3 hx ex0
end Go.Proofs.YtanopbolgfcojaaDoor.E.S4
