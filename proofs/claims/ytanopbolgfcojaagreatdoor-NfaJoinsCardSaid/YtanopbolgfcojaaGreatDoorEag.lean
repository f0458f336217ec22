/- Steps of the seat's proofs: an evaluator of the program's code, its soundness, and what the functions come to. -/
import Derived.Test.YtanopbolgfcojaaGreatDoorEaf
set_option linter.unusedSimpArgs false
set_option linter.unusedVariables false
namespace Go.Proofs.YtanopbolgfcojaaGreatDoor.E.SZ
open Go Go.Proofs E E.R
theorem cap_eq {n:Int}:(bif true then bif decide ((bif false then bif decide (n < 1000000) then 1000000 else n else bif decide (1000000 < n) then 1000000 else n) < 0) then 0 else bif false then bif decide (n < 1000000) then 1000000 else n else bif decide (1000000 < n) then 1000000 else n else bif decide (0 < bif false then bif decide (n < 1000000) then 1000000 else n else bif decide (1000000 < n) then 1000000 else n) then 0 else bif false then bif decide (n < 1000000) then 1000000 else n else bif decide (1000000 < n) then 1000000 else n)=max (min n 1000000) 0:=by
 simp only [cond_eq_ite,decide_eq_true_eq,if_true,Bool.false_eq_true,if_false]
 split <;> split at * <;> omega
theorem cap_ok {m:Int} {fl:Nat} {hp:List Blk} {n:Int}:evI (cfg m) fl 31 [.int .i64 n] hp=some (.int .i64 (max (min n 1000000) 0),hp):=by
 exact evX (AI (bif true then bif decide ((bif false then bif decide (n < 1000000) then 1000000 else n else bif decide (1000000 < n) then 1000000 else n) < 0) then 0 else bif false then bif decide (n < 1000000) then 1000000 else n else bif decide (1000000 < n) then 1000000 else n else bif decide (0 < bif false then bif decide (n < 1000000) then 1000000 else n else bif decide (1000000 < n) then 1000000 else n) then 0 else bif false then bif decide (n < 1000000) then 1000000 else n else bif decide (1000000 < n) then 1000000 else n)) (hp) [] (by kernel_rfl) (tlP (by kernel_rfl) rfl (shutT (v:=AI (bif true then bif decide ((bif false then bif decide (n < 1000000) then 1000000 else n else bif decide (1000000 < n) then 1000000 else n) < 0) then 0 else bif false then bif decide (n < 1000000) then 1000000 else n else bif decide (1000000 < n) then 1000000 else n else bif decide (0 < bif false then bif decide (n < 1000000) then 1000000 else n else bif decide (1000000 < n) then 1000000 else n) then 0 else bif false then bif decide (n < 1000000) then 1000000 else n else bif decide (1000000 < n) then 1000000 else n)) (v':=AI (bif true then bif decide ((bif false then bif decide (n < 1000000) then 1000000 else n else bif decide (1000000 < n) then 1000000 else n) < 0) then 0 else bif false then bif decide (n < 1000000) then 1000000 else n else bif decide (1000000 < n) then 1000000 else n else bif decide (0 < bif false then bif decide (n < 1000000) then 1000000 else n else bif decide (1000000 < n) then 1000000 else n) then 0 else bif false then bif decide (n < 1000000) then 1000000 else n else bif decide (1000000 < n) then 1000000 else n)) (by kernel_rfl))) (congrArg (fun z=>some (AI z,hp)) cap_eq)
theorem mx1 {x:Int}:(bif true then bif decide (x < 1) then 1 else x else bif decide (1 < x) then 1 else x)=max x 1:=by
 simp only [cond_eq_ite,decide_eq_true_eq,if_true]
 split <;> omega
abbrev szSt (n:Node) (ks:AV) (s f:Int) (nv i:Nat):List TV:=[J, .bx [AI n.kind,wAV n.set.a,wAV n.set.b,wAV n.set.c,wAV n.set.d,AI n.mn,AI n.mx,ks],J, .v (AI s), .v (AI f),J,J,J,J, .v ks, .v (AI nv), .v (AI i)]++List.replicate 59 J
abbrev szEnd (n:Node) (ks:AV) (s f:Int):List TV:=[J, .bx [AI n.kind,wAV n.set.a,wAV n.set.b,wAV n.set.c,wAV n.set.d,AI n.mn,AI n.mx,ks],J, .v (AI s), .v (AI f)]++List.replicate 66 J
theorem sz_0 {m:Int} {fl nv:Nat} {hp:List Blk} {n:Node} {ks kq:AV} {q:Node} {vs:List AV} {s f z:Int} (hk:IsSl 8 ks vs) (hv:vs[0]?=some (nAV q kq)) (hi:0 < nv) (hnv:nv < 100000) (hc:evI (cfg m) fl 22 [nAV q kq] hp=some (.int .i64 z,hp)) (hs:0≤s∧s≤1000000) (hz:0≤z∧z≤1000000):LoopS (cfg m) fl 22 (bodyAt (cfg m) 22 3) 3 ⟨szSt n ks s f nv 0,hp⟩ ⟨szSt n ks (max (min (s + z) 1000000) 0) z nv 1,hp⟩:=by
 exact loopStepS (St.mk [J,TV.bx [AI n.kind,AW n.set.a.toNat,AW n.set.b.toNat,AW n.set.c.toNat,AW n.set.d.toNat,AI n.mn,AI n.mx,ks],J,TV.v (AI (max (min (s + z) 1000000) 0)),TV.v (AI z),J,J,J,J,TV.v ks,TV.v (AI nv),TV.v (AI 1),J,J,J,J,J,J,J,J,J,J,J,J,J,J,J,J,J,J,J,J,J,J,J,J,J,J,J,J,J,J,J,J,J,J,J,J,J,J,J,J,J,J,J,J,J,J,J,J,J,J,J,J,J,J,J,J,J,J,J] hp) [.b 3 0 (decide_eq_true ((show 0 < (↑nv:Int) from (by omega)))), .a 4 1 (indexAddr_sl (C:=cfg m) (t:=41) (n:=0) hk (by kernel_rfl) (by omega) hv), .c 5 1 hc, .w 8 2 IntKind.i64 (s + z) (wrap_i64' (by omega)), .c 8 3 (SZ.cap_ok (m:=m) (fl:=fl) (hp:=hp) (n:=s + z))] (by kernel_rfl) rfl
theorem sz_i {m:Int} {fl nv i:Nat} {hp:List Blk} {n:Node} {ks kq:AV} {q:Node} {vs:List AV} {s f z:Int} (hk:IsSl 8 ks vs) (hv:vs[i]?=some (nAV q kq)) (hi:i < nv) (h0:0 < i) (hnv:nv < 100000) (hc:evI (cfg m) fl 22 [nAV q kq] hp=some (.int .i64 z,hp)) (hs:0≤s∧s≤1000000) (hz:0≤z∧z≤1000000):LoopS (cfg m) fl 22 (bodyAt (cfg m) 22 3) 3 ⟨szSt n ks s f nv i,hp⟩ ⟨szSt n ks (max (min (s + z) 1000000) 0) f nv (i + 1),hp⟩:=by
 exact loopStepS (St.mk [J,TV.bx [AI n.kind,AW n.set.a.toNat,AW n.set.b.toNat,AW n.set.c.toNat,AW n.set.d.toNat,AI n.mn,AI n.mx,ks],J,TV.v (AI (max (min (s + z) 1000000) 0)),TV.v (AI f),J,J,J,J,TV.v ks,TV.v (AI nv),TV.v (AI ((↑i:Int) + 1)),J,J,J,J,J,J,J,J,J,J,J,J,J,J,J,J,J,J,J,J,J,J,J,J,J,J,J,J,J,J,J,J,J,J,J,J,J,J,J,J,J,J,J,J,J,J,J,J,J,J,J,J,J,J,J,J,J,J,J] hp) [.b 3 0 (decide_eq_true ((show (↑i:Int) < (↑nv:Int) from (by omega)))), .a 4 1 (indexAddr_sl (C:=cfg m) (t:=41) (n:=(↑i:Int)) hk (by kernel_rfl) (by omega) hv), .c 5 1 hc, .b 6 1 (beq_false_of_ne ((show ¬(↑i:Int)=0 from (by omega)))), .w 8 2 IntKind.i64 (s + z) (wrap_i64' (by omega)), .c 8 3 (SZ.cap_ok (m:=m) (fl:=fl) (hp:=hp) (n:=s + z)), .w 9 0 IntKind.i64 ((↑i:Int) + 1) (wrap_i64' (by omega))] (by kernel_rfl) rfl
theorem sz_x {m:Int} {fl nv i:Nat} {hp:List Blk} {n:Node} {ks:AV} {s f:Int} (hi:nv≤i):LoopI (cfg m) fl 22 (bodyAt (cfg m) 22 3) 3 ⟨szSt n ks s f nv i,hp⟩ (.exit 0) ⟨szEnd n ks s f,hp⟩:=by
 exact loopEndC (.exit 0) (St.mk ([J,TV.bx [AI n.kind,AW n.set.a.toNat,AW n.set.b.toNat,AW n.set.c.toNat,AW n.set.d.toNat,AI n.mn,AI n.mx,ks],J,TV.v (AI s),TV.v (AI f)]++Jn 66) hp) [.b 3 0 (decide_eq_false ((show ¬(↑i:Int) < (↑nv:Int) from (by omega))))] (by kernel_rfl) (fun h=>by cases h) rfl
theorem sz_k1 {m:Int} {fl:Nat} {hp:List Blk} {n:Node} {ks:AV} {vs:List AV} {s f:Int} (hk:IsSl 8 ks vs) (hlp:LoopI (cfg m) hp.length 22 (bodyAt (cfg m) 22 3) 3 ⟨szSt n ks 0 0 vs.length 0,hp⟩ (.exit 0) ⟨szEnd n ks s f,hp⟩) (hs:0≤s∧s≤1000000) (hf:0≤f∧f≤1000000) (hnv:vs.length < 100000) (h:n.kind=1):evI (cfg m) fl 22 [nAV n ks] hp=some (.int .i64 (1),hp):=by
 exact evX (AI 1) (hp) [.m 2 2 (len_sl (C:=cfg m) (t:=41) (ts':=[]) (fl:=hp.length) (ar:=false) (hp:=hp) hk (by kernel_rfl)), .l 3 hlp, .b 11 0 (beq_iff_eq.2 (h))] (by kernel_rfl) (tlP (by kernel_rfl) rfl (shutT (v:=AI 1) (v':=AI 1) (by kernel_rfl))) rfl
theorem sz_k2 {m:Int} {fl:Nat} {hp:List Blk} {n:Node} {ks:AV} {vs:List AV} {s f:Int} (hk:IsSl 8 ks vs) (hlp:LoopI (cfg m) hp.length 22 (bodyAt (cfg m) 22 3) 3 ⟨szSt n ks 0 0 vs.length 0,hp⟩ (.exit 0) ⟨szEnd n ks s f,hp⟩) (hs:0≤s∧s≤1000000) (hf:0≤f∧f≤1000000) (hnv:vs.length < 100000) (h:n.kind=2):evI (cfg m) fl 22 [nAV n ks] hp=some (.int .i64 (1),hp):=by
 exact evX (AI 1) (hp) [.m 2 2 (len_sl (C:=cfg m) (t:=41) (ts':=[]) (fl:=hp.length) (ar:=false) (hp:=hp) hk (by kernel_rfl)), .l 3 hlp, .b 11 0 (beq_false_of_ne ((show ¬n.kind=1 from (by omega)))), .b 12 0 (beq_iff_eq.2 (h))] (by kernel_rfl) (tlP (by kernel_rfl) rfl (shutT (v:=AI 1) (v':=AI 1) (by kernel_rfl))) rfl
theorem sz_k3 {m:Int} {fl:Nat} {hp:List Blk} {n:Node} {ks:AV} {vs:List AV} {s f:Int} (hk:IsSl 8 ks vs) (hlp:LoopI (cfg m) hp.length 22 (bodyAt (cfg m) 22 3) 3 ⟨szSt n ks 0 0 vs.length 0,hp⟩ (.exit 0) ⟨szEnd n ks s f,hp⟩) (hs:0≤s∧s≤1000000) (hf:0≤f∧f≤1000000) (hnv:vs.length < 100000) (h:n.kind=3):evI (cfg m) fl 22 [nAV n ks] hp=some (.int .i64 (1),hp):=by
 exact evX (AI 1) (hp) [.m 2 2 (len_sl (C:=cfg m) (t:=41) (ts':=[]) (fl:=hp.length) (ar:=false) (hp:=hp) hk (by kernel_rfl)), .l 3 hlp, .b 11 0 (beq_false_of_ne ((show ¬n.kind=1 from (by omega)))), .b 12 0 (beq_false_of_ne ((show ¬n.kind=2 from (by omega)))), .b 13 0 (beq_iff_eq.2 (h))] (by kernel_rfl) (tlP (by kernel_rfl) rfl (shutT (v:=AI 1) (v':=AI 1) (by kernel_rfl))) rfl
theorem sz_k4 {m:Int} {fl:Nat} {hp:List Blk} {n:Node} {ks:AV} {vs:List AV} {s f:Int} (hk:IsSl 8 ks vs) (hlp:LoopI (cfg m) hp.length 22 (bodyAt (cfg m) 22 3) 3 ⟨szSt n ks 0 0 vs.length 0,hp⟩ (.exit 0) ⟨szEnd n ks s f,hp⟩) (hs:0≤s∧s≤1000000) (hf:0≤f∧f≤1000000) (hnv:vs.length < 100000) (h:n.kind=4):evI (cfg m) fl 22 [nAV n ks] hp=some (.int .i64 (s),hp):=by
 exact evX (AI s) (hp) [.m 2 2 (len_sl (C:=cfg m) (t:=41) (ts':=[]) (fl:=hp.length) (ar:=false) (hp:=hp) hk (by kernel_rfl)), .l 3 hlp, .b 11 0 (beq_false_of_ne ((show ¬n.kind=1 from (by omega)))), .b 12 0 (beq_false_of_ne ((show ¬n.kind=2 from (by omega)))), .b 13 0 (beq_false_of_ne ((show ¬n.kind=3 from (by omega)))), .b 15 0 (beq_iff_eq.2 (h))] (by kernel_rfl) (tlP (by kernel_rfl) rfl (shutT (v:=AI s) (v':=AI s) (by kernel_rfl))) rfl
theorem sz_k5 {m:Int} {fl:Nat} {hp:List Blk} {n:Node} {ks:AV} {vs:List AV} {s f:Int} (hk:IsSl 8 ks vs) (hlp:LoopI (cfg m) hp.length 22 (bodyAt (cfg m) 22 3) 3 ⟨szSt n ks 0 0 vs.length 0,hp⟩ (.exit 0) ⟨szEnd n ks s f,hp⟩) (hs:0≤s∧s≤1000000) (hf:0≤f∧f≤1000000) (hnv:vs.length < 100000) (h:n.kind=5):evI (cfg m) fl 22 [nAV n ks] hp=some (.int .i64 (max (min (s + vs.length - 1) 1000000) 0),hp):=by
 exact evX (AI (max (min (s + (↑vs.length:Int) - 1) 1000000) 0)) (hp) [.m 2 2 (len_sl (C:=cfg m) (t:=41) (ts':=[]) (fl:=hp.length) (ar:=false) (hp:=hp) hk (by kernel_rfl)), .l 3 hlp, .b 11 0 (beq_false_of_ne ((show ¬n.kind=1 from (by omega)))), .b 12 0 (beq_false_of_ne ((show ¬n.kind=2 from (by omega)))), .b 13 0 (beq_false_of_ne ((show ¬n.kind=3 from (by omega)))), .b 15 0 (beq_false_of_ne ((show ¬n.kind=4 from (by omega)))), .b 17 0 (beq_iff_eq.2 (h)), .m 18 3 (len_sl (C:=cfg m) (t:=41) (ts':=[]) (fl:=hp.length) (ar:=false) (hp:=hp) hk (by kernel_rfl)), .w 18 4 IntKind.i64 (s + (↑vs.length:Int)) (wrap_i64' (by omega)), .w 18 5 IntKind.i64 (s + (↑vs.length:Int) - 1) (wrap_i64' (by omega)), .c 18 6 (SZ.cap_ok (m:=m) (fl:=hp.length) (hp:=hp) (n:=s + (↑vs.length:Int) - 1))] (by kernel_rfl) (tlP (by kernel_rfl) rfl (shutT (v:=AI (max (min (s + (↑vs.length:Int) - 1) 1000000) 0)) (v':=AI (max (min (s + (↑vs.length:Int) - 1) 1000000) 0)) (by kernel_rfl))) rfl
theorem sz_k6a {m:Int} {fl:Nat} {hp:List Blk} {n:Node} {ks:AV} {vs:List AV} {s f:Int} (hk:IsSl 8 ks vs) (hlp:LoopI (cfg m) hp.length 22 (bodyAt (cfg m) 22 3) 3 ⟨szSt n ks 0 0 vs.length 0,hp⟩ (.exit 0) ⟨szEnd n ks s f,hp⟩) (hs:0≤s∧s≤1000000) (hf:0≤f∧f≤1000000) (hnv:vs.length < 100000) (h:n.kind=6) (h2:n.mx < 0) (hm:0≤f * max (max (min n.mn 1000000) 0) 1∧f * max (max (min n.mn 1000000) 0) 1≤1000000000000):evI (cfg m) fl 22 [nAV n ks] hp=some (.int .i64 (max (min (f * max (max (min n.mn 1000000) 0) 1 + 1) 1000000) 0),hp):=by
 exact evX (AI (max (min (IntKind.i64.wrap (IntKind.i64.wrap (f * bif true then bif decide (max (min n.mn 1000000) 0 < 1) then 1 else max (min n.mn 1000000) 0 else bif decide (1 < max (min n.mn 1000000) 0) then 1 else max (min n.mn 1000000) 0) + 1)) 1000000) 0)) (hp) [.m 2 2 (len_sl (C:=cfg m) (t:=41) (ts':=[]) (fl:=hp.length) (ar:=false) (hp:=hp) hk (by kernel_rfl)), .l 3 hlp, .b 11 0 (beq_false_of_ne ((show ¬n.kind=1 from (by omega)))), .b 12 0 (beq_false_of_ne ((show ¬n.kind=2 from (by omega)))), .b 13 0 (beq_false_of_ne ((show ¬n.kind=3 from (by omega)))), .b 15 0 (beq_false_of_ne ((show ¬n.kind=4 from (by omega)))), .b 17 0 (beq_false_of_ne ((show ¬n.kind=5 from (by omega)))), .b 19 0 (beq_iff_eq.2 (h)), .b 20 2 (decide_eq_true (h2)), .c 21 3 (SZ.cap_ok (m:=m) (fl:=hp.length) (hp:=hp) (n:=n.mn)), .c 21 7 (SZ.cap_ok (m:=m) (fl:=hp.length) (hp:=hp) (n:=IntKind.i64.wrap (IntKind.i64.wrap (f * bif true then bif decide (max (min n.mn 1000000) 0 < 1) then 1 else max (min n.mn 1000000) 0 else bif decide (1 < max (min n.mn 1000000) 0) then 1 else max (min n.mn 1000000) 0) + 1)))] (by kernel_rfl) (tlP (by kernel_rfl) rfl (shutT (v:=AI (max (min (IntKind.i64.wrap (IntKind.i64.wrap (f * bif true then bif decide (max (min n.mn 1000000) 0 < 1) then 1 else max (min n.mn 1000000) 0 else bif decide (1 < max (min n.mn 1000000) 0) then 1 else max (min n.mn 1000000) 0) + 1)) 1000000) 0)) (v':=AI (max (min (IntKind.i64.wrap (IntKind.i64.wrap (f * bif true then bif decide (max (min n.mn 1000000) 0 < 1) then 1 else max (min n.mn 1000000) 0 else bif decide (1 < max (min n.mn 1000000) 0) then 1 else max (min n.mn 1000000) 0) + 1)) 1000000) 0)) (by kernel_rfl))) (by rw [mx1,wrap_i64 (n:=f * max (max (min n.mn 1000000) 0) 1) (by omega) (by omega),wrap_i64 (by omega) (by omega)])
theorem sz_k6b {m:Int} {fl:Nat} {hp:List Blk} {n:Node} {ks:AV} {vs:List AV} {s f:Int} (hk:IsSl 8 ks vs) (hlp:LoopI (cfg m) hp.length 22 (bodyAt (cfg m) 22 3) 3 ⟨szSt n ks 0 0 vs.length 0,hp⟩ (.exit 0) ⟨szEnd n ks s f,hp⟩) (hs:0≤s∧s≤1000000) (hf:0≤f∧f≤1000000) (hnv:vs.length < 100000) (h:n.kind=6) (h2:¬ n.mx < 0) (hm:0≤f * max (min n.mx 1000000) 0∧f * max (min n.mx 1000000) 0≤1000000000000):evI (cfg m) fl 22 [nAV n ks] hp=some (.int .i64 (max (min (f * max (min n.mx 1000000) 0 + max (min n.mx 1000000) 0 - max (min n.mn 1000000) 0) 1000000) 0),hp):=by
 exact evX (AI (max (min (f * max (min n.mx 1000000) 0 + max (min n.mx 1000000) 0 - max (min n.mn 1000000) 0) 1000000) 0)) (hp) [.m 2 2 (len_sl (C:=cfg m) (t:=41) (ts':=[]) (fl:=hp.length) (ar:=false) (hp:=hp) hk (by kernel_rfl)), .l 3 hlp, .b 11 0 (beq_false_of_ne ((show ¬n.kind=1 from (by omega)))), .b 12 0 (beq_false_of_ne ((show ¬n.kind=2 from (by omega)))), .b 13 0 (beq_false_of_ne ((show ¬n.kind=3 from (by omega)))), .b 15 0 (beq_false_of_ne ((show ¬n.kind=4 from (by omega)))), .b 17 0 (beq_false_of_ne ((show ¬n.kind=5 from (by omega)))), .b 19 0 (beq_iff_eq.2 (h)), .b 20 2 (decide_eq_false (h2)), .c 22 3 (SZ.cap_ok (m:=m) (fl:=hp.length) (hp:=hp) (n:=n.mx)), .w 22 4 IntKind.i64 (f * max (min n.mx 1000000) 0) (wrap_i64' (by omega)), .c 22 7 (SZ.cap_ok (m:=m) (fl:=hp.length) (hp:=hp) (n:=n.mx)), .w 22 8 IntKind.i64 (f * max (min n.mx 1000000) 0 + max (min n.mx 1000000) 0) (wrap_i64' (by omega)), .c 22 11 (SZ.cap_ok (m:=m) (fl:=hp.length) (hp:=hp) (n:=n.mn)), .w 22 12 IntKind.i64 (f * max (min n.mx 1000000) 0 + max (min n.mx 1000000) 0 - max (min n.mn 1000000) 0) (wrap_i64' (by omega)), .c 22 13 (SZ.cap_ok (m:=m) (fl:=hp.length) (hp:=hp) (n:=f * max (min n.mx 1000000) 0 + max (min n.mx 1000000) 0 - max (min n.mn 1000000) 0))] (by kernel_rfl) (tlP (by kernel_rfl) rfl (shutT (v:=AI (max (min (f * max (min n.mx 1000000) 0 + max (min n.mx 1000000) 0 - max (min n.mn 1000000) 0) 1000000) 0)) (v':=AI (max (min (f * max (min n.mx 1000000) 0 + max (min n.mx 1000000) 0 - max (min n.mn 1000000) 0) 1000000) 0)) (by kernel_rfl))) rfl
theorem sz_ko {m:Int} {fl:Nat} {hp:List Blk} {n:Node} {ks:AV} {vs:List AV} {s f:Int} (hk:IsSl 8 ks vs) (hlp:LoopI (cfg m) hp.length 22 (bodyAt (cfg m) 22 3) 3 ⟨szSt n ks 0 0 vs.length 0,hp⟩ (.exit 0) ⟨szEnd n ks s f,hp⟩) (hs:0≤s∧s≤1000000) (hf:0≤f∧f≤1000000) (hnv:vs.length < 100000) (h1:¬ n.kind=1) (h2:¬ n.kind=2) (h3:¬ n.kind=3) (h4:¬ n.kind=4) (h5:¬ n.kind=5) (h6:¬ n.kind=6):evI (cfg m) fl 22 [nAV n ks] hp=some (.int .i64 (0),hp):=by
 exact evX (AI 0) (hp) [.m 2 2 (len_sl (C:=cfg m) (t:=41) (ts':=[]) (fl:=hp.length) (ar:=false) (hp:=hp) hk (by kernel_rfl)), .l 3 hlp, .b 11 0 (beq_false_of_ne (h1)), .b 12 0 (beq_false_of_ne (h2)), .b 13 0 (beq_false_of_ne (h3)), .b 15 0 (beq_false_of_ne (h4)), .b 17 0 (beq_false_of_ne (h5)), .b 19 0 (beq_false_of_ne (h6))] (by kernel_rfl) (tlP (by kernel_rfl) rfl (shutT (v:=AI 0) (v':=AI 0) (by kernel_rfl))) rfl
end Go.Proofs.YtanopbolgfcojaaGreatDoor.E.SZ
namespace Go.Proofs.YtanopbolgfcojaaGreatDoor.E
def sumC:List Int→Int→Int
 | [],a=>a
 | x::l,a=>sumC l (max (min (a + x) 1000000) 0)
def sizeV (k mn mx:Int) (l:List Int):Int :=
 if k=1∨k=2∨k=3 then 1
 else if k=4 then sumC l 0
 else if k=5 then max (min (sumC l 0 + l.length - 1) 1000000) 0
 else if k=6 then
  if mx < 0 then max (min (l.headD 0 * max (max (min mn 1000000) 0) 1 + 1) 1000000) 0
  else max (min (l.headD 0 * max (min mx 1000000) 0 + max (min mx 1000000) 0 - max (min mn 1000000) 0) 1000000) 0
 else 0
mutual
def Node.size:Node→Int
 | .mk k _ a b l=>sizeV k a b (sizes l)
def sizes:List Node→List Int
 | []=>[]
 | n::l=>n.size::sizes l
end
theorem sizes_map:∀ {l:List Node},sizes l=l.map Node.size
 | []=>by simp [sizes]
 | n::l=>by simp [sizes,sizes_map (l:=l)]
theorem Node.size_eq (n:Node):n.size=sizeV n.kind n.mn n.mx (n.kids.map Node.size):=by
 cases n with | mk k s a b l=>simp only [Node.size,sizes_map,Node.kind,Node.mn,Node.mx,Node.kids]
theorem sumC_bd:∀ (l:List Int) (a:Int),0≤a∧a≤1000000→0≤sumC l a∧sumC l a≤1000000
 | [],a,h=>h
 | x::l,a,h=>sumC_bd l _ (by omega)
theorem size_bd (n:Node):0≤n.size∧n.size≤1000000:=by
 rw [n.size_eq]
 have:=sumC_bd (n.kids.map Node.size) 0 (by omega)
 unfold sizeV
 repeat' split
 all_goals omega
theorem lw_mem {q:Node}:∀ {l:List Node},q ∈ l→q.lw≤lws l
 | [],h=>by cases h
 | n::l,h=>by
  simp only [lws]
  rcases List.mem_cons.1 h with rfl | h
  ·omega
  ·have:=lw_mem h;omega
end Go.Proofs.YtanopbolgfcojaaGreatDoor.E
namespace Go.Proofs.YtanopbolgfcojaaGreatDoor.E.SZ
open Go Go.Proofs E E.R
theorem size_ok {m:Int}:∀ (d:Nat) {fl:Nat} {n:Node} {ks:AV} {hp:List Blk},Dep d n→KidsR n.kids ks→n.lw < 100000→evI (cfg m) fl 22 [nAV n ks] hp=some (.int .i64 n.size,hp)
 | 0,_,_,_,_,h,_,_=>h.elim
 | d + 1,fl,n,ks,hp,hd,hk,hw=>by
  obtain ⟨vs,hs,hR⟩:=hk
  have hl:=hR.1
  have hlw:=n.lw_eq
  have h1:=lws_len (l:=n.kids)
  have hnv:vs.length < 100000:=by omega
  have rest:∀ (r:List Node) (i:Nat) (s f:Int),0 < i→n.kids.drop i=r→0≤s∧s≤1000000→LoopI (cfg m) hp.length 22 (bodyAt (cfg m) 22 3) 3 ⟨szSt n ks s f vs.length i,hp⟩ (.exit 0) ⟨szEnd n ks (sumC (r.map Node.size) s) f,hp⟩:=by
   intro r
   induction r with
   | nil =>
    intro i s f h0 hr hb
    have:n.kids.length≤i:=by simpa using hr
    exact sz_x (by omega)
   | cons q r ih =>
    intro i s f h0 hr hb
    have hq:n.kids[i]?=some q:=by have:=congrArg (·[0]?) hr;simpa using this
    have hi:i < n.kids.length:=(List.getElem?_eq_some_iff.1 hq).1
    have hr':n.kids.drop (i + 1)=r:=by rw [← List.drop_drop,hr];rfl
    obtain ⟨kq,hv,kvs,k1,k2⟩:=hR.get hq
    have hmem:=List.mem_of_getElem? hq
    have hc:=size_ok (m:=m) d (fl:=hp.length) (hp:=hp) (hd q hmem) ⟨kvs,k1,k2⟩ (by have:=lw_mem hmem;omega)
    have hz:=size_bd q
    exact sz_i (n:=n) hs hv (by omega) h0 hnv hc hb hz _ _ (ih (i + 1) _ f (by omega) hr' (by omega))
  have key:∃ s f,LoopI (cfg m) hp.length 22 (bodyAt (cfg m) 22 3) 3 ⟨szSt n ks 0 0 vs.length 0,hp⟩ (.exit 0) ⟨szEnd n ks s f,hp⟩∧s=sumC (n.kids.map Node.size) 0∧f=(n.kids.map Node.size).headD 0:=by
   cases hr:n.kids with
   | nil =>
    rw [hr] at hl
    exact ⟨0,0,sz_x (by simp at hl;simp [hl]),rfl,rfl⟩
   | cons q r =>
    have hq:n.kids[0]?=some q:=by rw [hr];rfl
    have hi:0 < n.kids.length:=(List.getElem?_eq_some_iff.1 hq).1
    have hr':n.kids.drop 1=r:=by rw [hr];rfl
    obtain ⟨kq,hv,kvs,k1,k2⟩:=hR.get hq
    have hmem:=List.mem_of_getElem? hq
    have hc:=size_ok (m:=m) d (fl:=hp.length) (hp:=hp) (hd q hmem) ⟨kvs,k1,k2⟩ (by have:=lw_mem hmem;omega)
    have hz:=size_bd q
    refine ⟨_,_,sz_0 (n:=n) hs hv (by omega) hnv hc (by omega) hz _ _ (rest r 1 _ q.size (by omega) hr' (by omega)), ?_,rfl⟩
    simp [sumC]
  obtain ⟨s,f,hlp,es,ef⟩:=key
  have hsb:=sumC_bd (n.kids.map Node.size) 0 (by omega)
  have hfb:0≤f∧f≤1000000:=by
   rw [ef]
   cases n.kids with
   | nil=>simp
   | cons q r=>exact size_bd q
  rw [← es] at hsb
  rw [n.size_eq]
  unfold sizeV
  rw [← es,← ef,List.length_map,← hl]
  by_cases h1:n.kind=1
  ·rw [if_pos (.inl h1)];exact sz_k1 hs hlp hsb hfb hnv h1
  by_cases h2:n.kind=2
  ·rw [if_pos (.inr (.inl h2))];exact sz_k2 hs hlp hsb hfb hnv h2
  by_cases h3:n.kind=3
  ·rw [if_pos (.inr (.inr h3))];exact sz_k3 hs hlp hsb hfb hnv h3
  rw [if_neg (by rintro (h | h | h) <;> contradiction)]
  by_cases h4:n.kind=4
  ·rw [if_pos h4];exact sz_k4 hs hlp hsb hfb hnv h4
  rw [if_neg h4]
  by_cases h5:n.kind=5
  ·rw [if_pos h5];exact sz_k5 hs hlp hsb hfb hnv h5
  rw [if_neg h5]
  by_cases h6:n.kind=6
  ·rw [if_pos h6]
   have prod:∀ x:Int,0≤x→x≤1000000→0≤f * x∧f * x≤1000000000000:=fun x h0 h1 =>
    ⟨Int.mul_nonneg hfb.1 h0,Int.le_trans (Int.mul_le_mul hfb.2 h1 h0 (by omega)) (by omega)⟩
   by_cases h7:n.mx < 0
   ·rw [if_pos h7];exact sz_k6a hs hlp hsb hfb hnv h6 h7 (prod _ (by omega) (by omega))
   ·rw [if_neg h7];exact sz_k6b hs hlp hsb hfb hnv h6 h7 (prod _ (by omega) (by omega))
  ·rw [if_neg h6];exact sz_ko hs hlp hsb hfb hnv h1 h2 h3 h4 h5 h6
end Go.Proofs.YtanopbolgfcojaaGreatDoor.E.SZ
namespace Go.Proofs.YtanopbolgfcojaaGreatDoor.E.SZ
open Go Go.Proofs E E.R
theorem ps_big {m:Int} {fl:Nat} {hp:List Blk} {s:List UInt8} (hl:256 < s.length) (hl2:s.length≤9223372036854775807):evI (cfg m) fl 20 [.str s] hp=some (.tup [nAV .empty .nilS, .int .i64 256, .int .i64 4],hp):=by
 exact evX (AV.tup [AV.agg [AI 0,AW 0,AW 0,AW 0,AW 0,AI 0,AI 0,AV.nilS],AI 256,AI 4]) (hp) [.b 1 2 (decide_eq_true ((show (↑s.length:Int) > 256 from (by omega))))] (by kernel_rfl) (tlP (by kernel_rfl) rfl (shutT (v:=AV.tup [AV.agg [AI 0,AW 0,AW 0,AW 0,AW 0,AI 0,AI 0,AV.nilS],AI 256,AI 4]) (v':=AV.tup [AV.agg [AI 0,AW 0,AW 0,AW 0,AW 0,AI 0,AI 0,AV.nilS],AI 256,AI 4]) (by kernel_rfl))) rfl
theorem ps_bad {m:Int} {fl q:Nat} {hp:List Blk} {s:List UInt8} {bad:Int} {n:Node} {ks:AV} (hl:s.length≤256) (hal:evI (cfg m) hp.length 27 [.ptr hp.length 0] (hp++[.cells (rdB s 0 (-1))])=some (nAV n ks,hp++[.cells (rdB s q bad)])) (hb:0≤bad):evI (cfg m) fl 20 [.str s] hp=some (.tup [nAV .empty .nilS, .int .i64 bad, .int .i64 2],hp):=by
 exact evX (AV.tup [AV.agg [AI 0,AW 0,AW 0,AW 0,AW 0,AI 0,AI 0,AV.nilS],AI bad,AI 2]) (hp++[BC [AV.str s,AI q,AI bad]]) [.b 1 2 (decide_eq_false ((show ¬(↑s.length:Int) > 256 from (by omega)))), .c 4 1 hal, .m 5 4 (load_ok (C:=cfg m) (t:=3) (b:=hp.length) (off:=2) (hp:=hp++[BC [AV.str s,AI q,AI bad]]) (cs:=[AV.str s,AI q,AI bad]) (x:=AI bad) blk_last (by kernel_rfl)), .b 5 5 (decide_eq_true (hb)), .m 6 5 (load_ok (C:=cfg m) (t:=3) (b:=hp.length) (off:=2) (hp:=hp++[BC [AV.str s,AI q,AI bad]]) (cs:=[AV.str s,AI q,AI bad]) (x:=AI bad) blk_last (by kernel_rfl))] (by kernel_rfl) (tlP (by kernel_rfl) rfl (shutT (v:=AV.tup [AV.agg [AI 0,AW 0,AW 0,AW 0,AW 0,AI 0,AI 0,AV.nilS],AI bad,AI 2]) (v':=AV.tup [AV.agg [AI 0,AW 0,AW 0,AW 0,AW 0,AI 0,AI 0,AV.nilS],AI bad,AI 2]) (by kernel_rfl))) rfl
theorem ps_left {m:Int} {fl q:Nat} {hp:List Blk} {s:List UInt8} {bad:Int} {n:Node} {ks ks':AV} (hl:s.length≤256) (hal:evI (cfg m) hp.length 27 [.ptr hp.length 0] (hp++[.cells (rdB s 0 (-1))])=some (nAV n ks,hp++[.cells (rdB s q bad)])) (hb:bad < 0) (hq:q < s.length):evI (cfg m) fl 20 [.str s] hp=some (.tup [nAV .empty .nilS, .int .i64 q, .int .i64 2],hp):=by
 exact evX (AV.tup [AV.agg [AI 0,AW 0,AW 0,AW 0,AW 0,AI 0,AI 0,AV.nilS],AI q,AI 2]) (hp++[BC [AV.str s,AI q,AI bad]]) [.b 1 2 (decide_eq_false ((show ¬(↑s.length:Int) > 256 from (by omega)))), .c 4 1 hal, .m 5 4 (load_ok (C:=cfg m) (t:=3) (b:=hp.length) (off:=2) (hp:=hp++[BC [AV.str s,AI q,AI bad]]) (cs:=[AV.str s,AI q,AI bad]) (x:=AI bad) blk_last (by kernel_rfl)), .b 5 5 (decide_eq_false ((show ¬bad≥0 from (by omega)))), .m 7 4 (load_ok (C:=cfg m) (t:=3) (b:=hp.length) (off:=1) (hp:=hp++[BC [AV.str s,AI q,AI bad]]) (cs:=[AV.str s,AI q,AI bad]) (x:=AI q) blk_last (by kernel_rfl)), .b 7 7 (decide_eq_true ((show (↑q:Int) < (↑s.length:Int) from (by omega)))), .m 8 5 (load_ok (C:=cfg m) (t:=3) (b:=hp.length) (off:=1) (hp:=hp++[BC [AV.str s,AI q,AI bad]]) (cs:=[AV.str s,AI q,AI bad]) (x:=AI q) blk_last (by kernel_rfl))] (by kernel_rfl) (tlP (by kernel_rfl) rfl (shutT (v:=AV.tup [AV.agg [AI 0,AW 0,AW 0,AW 0,AW 0,AI 0,AI 0,AV.nilS],AI q,AI 2]) (v':=AV.tup [AV.agg [AI 0,AW 0,AW 0,AW 0,AW 0,AI 0,AI 0,AV.nilS],AI q,AI 2]) (by kernel_rfl))) rfl
theorem ps_size {m:Int} {fl q:Nat} {hp:List Blk} {s:List UInt8} {bad:Int} {n:Node} {ks ks':AV} (hl:s.length≤256) (hal:evI (cfg m) hp.length 27 [.ptr hp.length 0] (hp++[.cells (rdB s 0 (-1))])=some (nAV n ks,hp++[.cells (rdB s q bad)])) (hb:bad < 0) (hq:¬ q < s.length) (hz:∀ h,evI (cfg m) hp.length 22 [nAV n ks] h=some (.int .i64 n.size,h)) (hz2:200 < n.size):evI (cfg m) fl 20 [.str s] hp=some (.tup [nAV .empty .nilS, .int .i64 s.length, .int .i64 4],hp):=by
 exact evX (AV.tup [AV.agg [AI 0,AW 0,AW 0,AW 0,AW 0,AI 0,AI 0,AV.nilS],AI s.length,AI 4]) (hp++[BC [AV.str s,AI q,AI bad]]) [.b 1 2 (decide_eq_false ((show ¬(↑s.length:Int) > 256 from (by omega)))), .c 4 1 hal, .m 5 4 (load_ok (C:=cfg m) (t:=3) (b:=hp.length) (off:=2) (hp:=hp++[BC [AV.str s,AI q,AI bad]]) (cs:=[AV.str s,AI q,AI bad]) (x:=AI bad) blk_last (by kernel_rfl)), .b 5 5 (decide_eq_false ((show ¬bad≥0 from (by omega)))), .m 7 4 (load_ok (C:=cfg m) (t:=3) (b:=hp.length) (off:=1) (hp:=hp++[BC [AV.str s,AI q,AI bad]]) (cs:=[AV.str s,AI q,AI bad]) (x:=AI q) blk_last (by kernel_rfl)), .b 7 7 (decide_eq_false ((show ¬(↑q:Int) < (↑s.length:Int) from (by omega)))), .c 9 1 (hz (hp++[BC [AV.str s,AI q,AI bad]])), .b 9 2 (decide_eq_true (hz2))] (by kernel_rfl) (tlP (by kernel_rfl) rfl (shutT (v:=AV.tup [AV.agg [AI 0,AW 0,AW 0,AW 0,AW 0,AI 0,AI 0,AV.nilS],AI s.length,AI 4]) (v':=AV.tup [AV.agg [AI 0,AW 0,AW 0,AW 0,AW 0,AI 0,AI 0,AV.nilS],AI s.length,AI 4]) (by kernel_rfl))) rfl
theorem ps_ok {m:Int} {fl q:Nat} {hp:List Blk} {s:List UInt8} {bad:Int} {n:Node} {ks ks':AV} (hl:s.length≤256) (hal:evI (cfg m) hp.length 27 [.ptr hp.length 0] (hp++[.cells (rdB s 0 (-1))])=some (nAV n ks,hp++[.cells (rdB s q bad)])) (hb:bad < 0) (hq:¬ q < s.length) (hz:∀ h,evI (cfg m) hp.length 22 [nAV n ks] h=some (.int .i64 n.size,h)) (hz2:¬ 200 < n.size) (hs:∀ h,shutV h hp.length 100000 (.tup [nAV n ks, .int .i64 s.length, .int .i64 0])=some (.tup [nAV n ks', .int .i64 s.length, .int .i64 0])):evI (cfg m) fl 20 [.str s] hp=some (.tup [nAV n ks', .int .i64 s.length, .int .i64 0],hp):=by
 exact evX (AV.tup [AV.agg [AI n.kind,AW n.set.a.toNat,AW n.set.b.toNat,AW n.set.c.toNat,AW n.set.d.toNat,AI n.mn,AI n.mx,ks],AI s.length,AI 0]) (hp++[BC [AV.str s,AI q,AI bad]]) [.b 1 2 (decide_eq_false ((show ¬(↑s.length:Int) > 256 from (by omega)))), .c 4 1 hal, .m 5 4 (load_ok (C:=cfg m) (t:=3) (b:=hp.length) (off:=2) (hp:=hp++[BC [AV.str s,AI q,AI bad]]) (cs:=[AV.str s,AI q,AI bad]) (x:=AI bad) blk_last (by kernel_rfl)), .b 5 5 (decide_eq_false ((show ¬bad≥0 from (by omega)))), .m 7 4 (load_ok (C:=cfg m) (t:=3) (b:=hp.length) (off:=1) (hp:=hp++[BC [AV.str s,AI q,AI bad]]) (cs:=[AV.str s,AI q,AI bad]) (x:=AI q) blk_last (by kernel_rfl)), .b 7 7 (decide_eq_false ((show ¬(↑q:Int) < (↑s.length:Int) from (by omega)))), .c 9 1 (hz (hp++[BC [AV.str s,AI q,AI bad]])), .b 9 2 (decide_eq_false (hz2))] (by kernel_rfl) (tlP (by kernel_rfl) rfl (hs (hp++[BC [AV.str s,AI q,AI bad]]))) rfl
theorem parseOK {m:Int}:ParseOK m:=fun t fl h _ hl=>np_ok (by omega)
def parseM (s:List UInt8):Node × Nat × Int :=
 if 256 < s.length then (.empty,256,4)
 else if 0≤(altF s 257 0 (-1)).2.2 then (.empty,(altF s 257 0 (-1)).2.2.toNat,2)
 else if (altF s 257 0 (-1)).2.1 < s.length then (.empty,(altF s 257 0 (-1)).2.1,2)
 else if 200 < (altF s 257 0 (-1)).1.size then (.empty,s.length,4)
 else ((altF s 257 0 (-1)).1,s.length,0)
theorem shut_tup2 {k D:Nat} {a b:AV} (ha:∀ h,shutV h k (D + 1) a=some b) {x y:Int}:∀ h,shutV h k (D + 2) (.tup [a, .int .i64 x, .int .i64 y])=some (.tup [b, .int .i64 x, .int .i64 y]):=by
 intro h
 show (mapO (shutV h k (D + 1)) [a, .int .i64 x, .int .i64 y]).map AV.tup=_
 simp only [mapO,ha h]
 simp only [shutV,Option.map]
theorem cloH_new {s:List UInt8} {hp:List Blk} (hc:cloH hp.length hp=true):cloH (hp++[Blk.cells (rdB s 0 (-1))]).length (hp++[Blk.cells (rdB s 0 (-1))])=true:=by
 have h:=cloH_mono (k:=(hp++[Blk.cells (rdB s 0 (-1))]).length) (by simp) hc
 unfold cloH at *
 rw [List.all_append,h]
 rfl
theorem parse_ok {m:Int} {fl:Nat} {hp:List Blk} {s:List UInt8} (hl:s.length≤9223372036854775807) (hc:cloH hp.length hp=true):∃ ks,evI (cfg m) fl 20 [.str s] hp=some (.tup [nAV (parseM s).1 ks, .int .i64 ((parseM s).2.1:Int), .int .i64 (parseM s).2.2],hp)∧KidsR (parseM s).1.kids ks:=by
 unfold parseM
 by_cases h1:256 < s.length
 ·rw [if_pos h1];exact ⟨.nilS,ps_big h1 hl,kn⟩
 rw [if_neg h1]
 have hb0:blkCells (hp++[Blk.cells (rdB s 0 (-1))]) hp.length=some (rdB s 0 (-1)):=by unfold blkCells;rw [getAt_app_last]
 obtain ⟨ks,a1,a2⟩:=alt_ok (m:=m) (fl:=hp.length) (rb:=hp.length) (s:=s) parseOK (Nat.le_refl _) (by omega) 257 0 (by omega) (by omega) (by omega) (-1) _ hb0 (cloH_new hc)
 have e1:∀ x,setAt (hp++[Blk.cells (rdB s 0 (-1))]) hp.length x=hp++[x]:=fun x=>by
  rw [setAt_eq,List.set_append_right _ _ (Nat.le_refl _)]
  simp
 rw [e1] at a1
 obtain ⟨b1,b2,b3⟩:=altF_all (s:=s) 257 0 (-1) (by omega)
 have b4:=b1.2
 generalize altF s 257 0 (-1)=r at *
 obtain ⟨n,q,bad⟩:=r
 dsimp only at *
 by_cases h2:0≤bad
 ·rw [if_pos h2]
  have:=ps_bad (fl:=fl) (by omega) a1 h2
  exact ⟨.nilS,by rw [this];dsimp only;rw [Int.toNat_of_nonneg h2],kn⟩
 rw [if_neg h2]
 have hbad:bad < 0:=by omega
 by_cases h3:q < s.length
 ·rw [if_pos h3];exact ⟨.nilS,ps_left (ks':=ks) (by omega) a1 hbad h3,kn⟩
 rw [if_neg h3]
 have hz:∀ h,evI (cfg m) hp.length 22 [nAV n ks] h=some (.int .i64 n.size,h):=fun h=>size_ok _ b3 a2 (by omega)
 by_cases h4:200 < n.size
 ·rw [if_pos h4];exact ⟨.nilS,ps_size (ks':=ks) (by omega) a1 hbad h3 hz h4,kn⟩
 rw [if_neg h4]
 obtain ⟨v,c1,c2⟩:=shut_node hp.length 99999 b3 (.of a2) (by omega)
 obtain ⟨ks',rfl,hk'⟩:=c2.to
 exact ⟨ks',ps_ok (by omega) a1 hbad h3 hz h4 (shut_tup2 c1),hk'⟩
end Go.Proofs.YtanopbolgfcojaaGreatDoor.E.SZ
/- The reader without places: what is read of the rest of a text. -/
namespace Go.Proofs.YtanopbolgfcojaaGreatDoor.E.SZ
open Go Go.Proofs E E.R
def escL : List UInt8 → Option (W4 × List UInt8)
  | [] => none
  | b :: t => if escS b = W4.zero then none else some (escS b, t)
def memL : List UInt8 → Option (W4 × List UInt8)
  | [] => none
  | b :: t => if b = 92 then escL t else if oneOf inClass b = true then none else some (W4.zero.with b b, t)
def itemL (t : List UInt8) : Option (W4 × List UInt8) :=
  match memL t with
  | none => none
  | some (a, []) => some (a, [])
  | some (a, c :: t') => if c = 45 then (match memL t' with
      | none => none
      | some (b, t2) => if ((W4.cntTo a 256 : Nat) : Int) = 1 ∧ ((W4.cntTo b 256 : Nat) : Int) = 1 ∧ (lowU a).toNat ≤ (lowU b).toNat then some (W4.zero.with (lowU a) (lowU b), t2) else none)
    else some (a, c :: t')
def clsL : Nat → W4 → Bool → List UInt8 → Option (W4 × List UInt8)
  | 0, _, _, _ => none
  | f + 1, acc, first, t => if first = false ∧ t.headD 0 = 93 then some (acc, t.tail) else
      match itemL t with
      | none => none
      | some (x, t') => clsL f (W4.or acc x) false t'
def classL (t : List UInt8) : Option (W4 × List UInt8) :=
  match clsL (t.length + 1) W4.zero true (if t.headD 0 = 94 then t.tail else t) with
  | none => none
  | some (r, t') => if t.headD 0 = 94 then (if W4.not r = W4.zero then none else some (W4.not r, t')) else if r = W4.zero then none else some (r, t')
def isDig (c : UInt8) : Bool := oneOf digs c
def numL (t : List UInt8) : Option (Int × List UInt8) :=
  if (parseF (t.takeWhile isDig)).2 = true ∧ (parseF (t.takeWhile isDig)).1 ≤ 20 then some ((parseF (t.takeWhile isDig)).1, t.dropWhile isDig) else none
def brcL (t : List UInt8) : Option (Int × Int × List UInt8) :=
  match numL t with
  | none => none
  | some (a, t1) => if t1.headD 0 = 125 then some (a, a, t1.tail) else if t1.headD 0 = 44 then
      (if t1.tail.headD 0 = 125 then some (a, -1, t1.tail.tail) else
        match numL t1.tail with
        | none => none
        | some (b, t2) => if t2.headD 0 = 125 ∧ a ≤ b then some (a, b, t2.tail) else none)
      else none
abbrev RL := Option (Node × List UInt8)
def atomL (rec : List UInt8 → RL) : List UInt8 → RL
  | [] => none
  | b :: t =>
    if b = 40 then (match rec t with
      | none => none
      | some (n, t') => if t'.headD 0 = 41 then some (n, t'.tail) else none)
    else if b = 46 then some (.one dotS, t)
    else if b = 94 then some (.mk 2 W4.zero 0 0 [], t)
    else if b = 36 then some (.mk 3 W4.zero 0 0 [], t)
    else if b = 92 then (match escL t with | none => none | some (x, t') => some (.one x, t'))
    else if b = 91 then (match classL t with | none => none | some (x, t') => some (.one x, t'))
    else if oneOf specials b = true then none
    else some (.one (W4.zero.with b b), t)
def timesL (n : Node) (t : List UInt8) : RL :=
  if t.headD 0 = 42 then some (.mk 6 W4.zero 0 (-1) [n], t.tail)
  else if t.headD 0 = 43 then some (.mk 6 W4.zero 1 (-1) [n], t.tail)
  else if t.headD 0 = 63 then some (.mk 6 W4.zero 0 1 [n], t.tail)
  else if t.headD 0 = 123 then (match brcL t.tail with
    | none => none
    | some (lo, hi, t') => some (.mk 6 W4.zero lo hi [n], t'))
  else some (n, t)
def pieceL (rec : List UInt8 → RL) (t : List UInt8) : RL :=
  match atomL rec t with
  | none => none
  | some (n, t') => timesL n t'
def loopL (rec : List UInt8 → RL) : Nat → List Node → List Node → List UInt8 → Option (List Node × List Node × List UInt8)
  | 0, _, _, _ => none
  | f + 1, A, O, t => if t = [] ∨ t.headD 0 = 41 then some (A, O, t) else if t.headD 0 = 124 then loopL rec f (A ++ [catF O]) [] t.tail else
      match pieceL rec t with
      | none => none
      | some (n, t') => loopL rec f A (O ++ [n]) t'
def altL : Nat → List UInt8 → RL
  | 0, _ => none
  | f + 1, t => match loopL (altL f) (t.length + 1) [] [] t with
    | none => none
    | some (A, O, t') => some (endF (A ++ [catF O]), t')
end Go.Proofs.YtanopbolgfcojaaGreatDoor.E.SZ
namespace Go.Proofs.YtanopbolgfcojaaGreatDoor.E.SZ
open Go Go.Proofs E E.R
section
variable {s:List UInt8} {p:Nat} {bad:Int}
theorem hd_drop:(s.drop p).headD 0=gb s p:=by
 unfold gb
 rw [List.headD_eq_head?_getD,List.head?_drop,List.getD_eq_getElem?_getD]
theorem drop_c (h:p < s.length):s.drop p=gb s p::s.drop (p + 1):=by
 rw [List.drop_eq_getElem_cons h]
 unfold gb
 rw [List.getD_eq_getElem?_getD,List.getElem?_eq_getElem h]
 rfl
theorem drop_tail:(s.drop p).tail=s.drop (p + 1):=by rw [List.tail_drop]
theorem drop_nil:s.drop p=[]↔¬ p < s.length:=by rw [List.drop_eq_nil_iff];omega
theorem gb_lt {c:UInt8} (hc:c≠0) (h:gb s p=c):p < s.length:=by
 rcases Nat.lt_or_ge p s.length with h' | h'
 ·exact h'
 ·exfalso;apply hc;rw [← h];unfold gb
  rw [List.getD_eq_getElem?_getD,List.getElem?_eq_none h'];rfl
theorem nx_iff {c:UInt8} (hb:bad < 0) (hc:c≠0):((bad < 0∧p < s.length)∧gb s p=c)↔(s.drop p).headD 0=c:=by
 rw [hd_drop]
 exact ⟨fun h=>h.2,fun h=>⟨⟨hb,gb_lt hc h⟩,h⟩⟩
theorem eat_L {c:UInt8} (hb:bad < 0) (hc:c≠0):eatP s p bad c=if (s.drop p).headD 0=c then p + 1 else p:=by
 unfold eatP
 by_cases h:(s.drop p).headD 0=c
 ·rw [if_pos h,if_pos ((nx_iff hb hc).2 h)]
 ·rw [if_neg h,if_neg (fun g=>h ((nx_iff hb hc).1 g))]
def RelW (s:List UInt8) (r:W4 × Bool × Nat) (o:Option (W4 × List UInt8)):Prop:=match o with
 | none=>r.2.1=false
 | some (x,t)=>r.1=x∧r.2.1=true∧s.drop r.2.2=t∧r.2.2≤s.length
theorem esc_L (hb:bad < 0):RelW s (escF s p bad) (escL (s.drop p)):=by
 unfold escF
 by_cases h:p < s.length
 ·rw [drop_c h,if_pos ⟨hb,h⟩]
  unfold escL
  dsimp only
  by_cases h2:escS (gb s p)=W4.zero
  ·rw [if_pos h2];show _=false;simp [h2]
  ·rw [if_neg h2];exact ⟨rfl,by simp [h2],rfl,h⟩
 ·rw [if_neg (fun g=>h g.2),drop_nil.2 h];rfl
theorem mem_L (hb:bad < 0) (hp:p≤s.length):RelW s (memF s p bad) (memL (s.drop p)):=by
 unfold memF
 have hc:(92:UInt8)≠0:=by decide
 by_cases h:p < s.length
 ·by_cases h1:gb s p=92
  ·rw [if_pos ⟨⟨hb,h⟩,h1⟩,eat_L hb hc,hd_drop,if_pos h1]
   rw [drop_c h]
   unfold memL
   dsimp only
   rw [if_pos h1]
   exact esc_L hb
  ·rw [if_neg (fun g=>h1 g.2),eat_L hb hc,hd_drop,if_neg h1,if_neg (fun g=>g ⟨hb,h⟩),drop_c h]
   unfold memL
   dsimp only
   rw [if_neg h1]
   by_cases h2:oneOf inClass (gb s p)=true
   ·rw [if_pos ⟨⟨hb,h⟩,h2⟩,if_pos h2];rfl
   ·rw [if_neg (fun g=>h2 g.2),if_neg h2];exact ⟨rfl,rfl,rfl,h⟩
 ·rw [drop_nil.2 h]
  have e:eatP s p bad 92=p:=by rw [eat_L hb hc,drop_nil.2 h];rfl
  rw [if_neg (fun g=>h g.1.2),e,if_pos (fun g=>h g.2)];rfl
theorem item_L (hb:bad < 0) (hp:p≤s.length):RelW s (itemF s p bad) (itemL (s.drop p)):=by
 have hc:(45:UInt8)≠0:=by decide
 unfold itemF itemL
 have h1:=mem_L (s:=s) hb hp
 generalize memF s p bad=a at *
 obtain ⟨x,k,q⟩:=a
 unfold itemG
 dsimp only
 cases hm:memL (s.drop p) with
 | none =>
  rw [hm] at h1
  have:k=false:=h1
  subst this
  rw [if_pos rfl];rfl
 | some r =>
  obtain ⟨y,t⟩:=r
  rw [hm] at h1
  obtain ⟨h2,h3,h4,h5⟩:=h1
  dsimp only at h2 h3 h4 h5
  subst h2 h3
  rw [if_neg (by simp)]
  by_cases h6:(s.drop q).headD 0=45
  ·rw [if_neg (fun g=>g ((nx_iff hb hc).2 h6)),eat_L hb hc,if_pos h6]
   have hq:q < s.length:=gb_lt hc (by rw [← hd_drop];exact h6)
   have h7:=mem_L (s:=s) (p:=q + 1) hb hq
   rw [drop_c hq] at h4
   subst h4
   have h6':gb s q=45:=by rw [← hd_drop];exact h6
   dsimp only
   rw [if_pos h6']
   generalize memF s (q + 1) bad=b at *
   obtain ⟨x2,k2,q2⟩:=b
   cases hm2:memL (s.drop (q + 1)) with
   | none =>
    rw [hm2] at h7
    rw [if_pos (.inl h7)];rfl
   | some r2 =>
    obtain ⟨y2,t2⟩:=r2
    rw [hm2] at h7
    obtain ⟨g2,g3,g4,g5⟩:=h7
    dsimp only at g2 g3 g4 g5 ⊢
    subst g2 g3
    by_cases h8:((W4.cntTo x 256:Nat):Int)=1∧((W4.cntTo x2 256:Nat):Int)=1
    ·rw [if_neg (by rintro (h | h | h);cases h;exact h h8.1;exact h h8.2)]
     by_cases h9:(lowU x).toNat≤(lowU x2).toNat
     ·rw [if_pos ⟨h8.1,h8.2,h9⟩]
      exact ⟨rfl,by simp [h9],g4,g5⟩
     ·rw [if_neg (fun h=>h9 h.2.2)]
      show decide _=false
      simp [h9]
    ·rw [if_pos,if_neg (fun h=>h8 ⟨h.1,h.2.1⟩)]
     ·rfl
     ·by_cases h9:((W4.cntTo x 256:Nat):Int)=1
      ·exact .inr (.inr fun h=>h8 ⟨h9,h⟩)
      ·exact .inr (.inl h9)
  ·rw [if_pos (fun g=>h6 ((nx_iff hb hc).1 g)),eat_L hb hc,if_neg h6]
   cases t with
   | nil=>exact ⟨rfl,rfl,h4,h5⟩
   | cons c t' =>
    have:c≠45:=fun h=>h6 (by rw [h4,h];rfl)
    dsimp only
    rw [if_neg this]
    exact ⟨rfl,rfl,h4,h5⟩
theorem esc_len {t:List UInt8} {x:W4} {r:List UInt8} (h:escL t=some (x,r)):r.length < t.length:=by
 unfold escL at h
 split at h
 ·cases h
 ·split at h
  ·cases h
  ·cases h;simp
theorem mem_len {t:List UInt8} {x:W4} {r:List UInt8} (h:memL t=some (x,r)):r.length < t.length:=by
 unfold memL at h
 split at h
 ·cases h
 ·split at h
  ·have:=esc_len h;simp;omega
  ·split at h
   ·cases h
   ·cases h;simp
theorem item_len {t:List UInt8} {x:W4} {r:List UInt8} (h:itemL t=some (x,r)):r.length < t.length:=by
 unfold itemL at h
 split at h
 ·cases h
 ·rename_i a hm;cases h;exact mem_len hm
 ·rename_i a c t' hm
  have h1:=mem_len hm
  simp at h1
  split at h
  ·split at h
   ·cases h
   ·rename_i b t2 hm2
    have:=mem_len hm2
    split at h
    ·cases h;omega
    ·cases h
  ·cases h;simp;omega
theorem cls_fuel:∀ (f g:Nat) (acc:W4) (first:Bool) (t:List UInt8),t.length < f→t.length < g→clsL f acc first t=clsL g acc first t
 | 0,_,_,_,_,h,_=>by omega
 | _ + 1,0,_,_,_,_,h=>by omega
 | f + 1,g + 1,acc,first,t,h1,h2=>by
  unfold clsL
  split
  ·rfl
  ·split
   ·rfl
   ·rename_i x t' hi
    have:=item_len hi
    exact cls_fuel f g _ _ _ (by omega) (by omega)
theorem cls_L (hb:bad < 0):∀ (f p:Nat) (acc:W4) (first:Bool),p≤s.length→s.length < f + p→match clsL f acc first (s.drop p) with
  | none=>(clsF s bad f p acc first).1=none
  | some (a,t)=>(clsF s bad f p acc first).1=some a∧s.drop (clsF s bad f p acc first).2=t∧(clsF s bad f p acc first).2≤s.length
 | 0,p,acc,first,h1,h2=>by omega
 | f + 1,p,acc,first,h1,h2=>by
  have hc:(93:UInt8)≠0:=by decide
  unfold clsF clsL
  by_cases h3:first=false∧(s.drop p).headD 0=93
  ·have hp:p < s.length:=gb_lt hc (by rw [← hd_drop];exact h3.2)
   rw [if_pos h3,if_pos ⟨h3.1,(nx_iff hb hc).2 h3.2⟩,eat_L hb hc,if_pos h3.2]
   exact ⟨rfl,drop_tail.symm,hp⟩
  ·rw [if_neg h3,if_neg (fun g=>h3 ⟨g.1,(nx_iff hb hc).1 g.2⟩)]
   have e:(if first=true then p else eatP s p bad 93)=p:=by
    split
    ·rfl
    ·rename_i hf
     rw [eat_L hb hc,if_neg (fun g=>h3 ⟨by simpa using hf,g⟩)]
   rw [e]
   have hi:=item_L (s:=s) (p:=p) hb h1
   cases hm:itemL (s.drop p) with
   | none =>
    rw [hm] at hi
    have hi':(itemF s p bad).2.1=false:=hi
    rw [if_pos hi']
   | some r =>
    obtain ⟨x,t⟩:=r
    rw [hm] at hi
    obtain ⟨g1,g2,g3,g4⟩:=hi
    rw [if_neg (by rw [g2];simp),g1]
    dsimp only at g3 g4 ⊢
    have hl:=item_len hm
    have hlt:p < (itemF s p bad).2.2:=by
     rw [← g3,List.length_drop,List.length_drop] at hl;omega
    rw [← g3]
    exact cls_L hb f _ _ _ g4 (by omega)
theorem class_L (hb:bad < 0) (hp:p≤s.length):RelW s (classF s p bad) (classL (s.drop p)):=by
 have hc:(94:UInt8)≠0:=by decide
 unfold classF classL
 have e:(if (s.drop p).headD 0=94 then (s.drop p).tail else s.drop p)=s.drop (eatP s p bad 94):=by
  rw [eat_L hb hc]
  split
  ·exact drop_tail
  ·rfl
 have hq:eatP s p bad 94≤s.length:=eatP_len hp
 have h:=cls_L (s:=s) hb (s.length + 1) (eatP s p bad 94) W4.zero true hq (by omega)
 rw [e]
 have hf:clsL ((s.drop p).length + 1) W4.zero true (s.drop (eatP s p bad 94))=clsL (s.length + 1) W4.zero true (s.drop (eatP s p bad 94)):=by
  have hle:p≤eatP s p bad 94:=by unfold eatP;split <;> omega
  exact cls_fuel _ _ _ _ _ (by simp only [List.length_drop];omega) (by simp only [List.length_drop];omega)
 rw [hf]
 generalize clsF s bad (s.length + 1) (eatP s p bad 94) W4.zero true=r at *
 obtain ⟨o,q⟩:=r
 cases hm:clsL (s.length + 1) W4.zero true (s.drop (eatP s p bad 94)) with
 | none =>
  rw [hm] at h
  dsimp only at h
  subst h
  rfl
 | some r =>
  obtain ⟨a,t⟩:=r
  rw [hm] at h
  obtain ⟨h1,h2,h3⟩:=h
  dsimp only at h1 h2 h3
  subst h1
  dsimp only
  by_cases h4:(s.drop p).headD 0=94
  ·rw [if_pos h4,if_pos ((nx_iff hb hc).2 h4)]
   by_cases h5:W4.not a=W4.zero
   ·rw [if_pos h5];show (!decide _)=false;simp [h5]
   ·rw [if_neg h5];exact ⟨rfl,by simp [h5],h2,h3⟩
  ·rw [if_neg h4,if_neg (fun g=>h4 ((nx_iff hb hc).1 g))]
   by_cases h5:a=W4.zero
   ·rw [if_pos h5];show (!decide _)=false;simp [h5]
   ·rw [if_neg h5];exact ⟨rfl,by simp [h5],h2,h3⟩
end
section
variable {s:List UInt8} {p:Nat} {bad:Int}
theorem dig_L (hb:bad < 0):∀ (f p:Nat),s.length < f + p→p≤s.length→s.drop (digE s bad f p)=(s.drop p).dropWhile isDig∧digT s p (digE s bad f p)=(s.drop p).takeWhile isDig
 | 0,p,h,h2=>by omega
 | f + 1,p,h,h2=>by
  unfold digE
  by_cases hd:(bad < 0∧p < s.length)∧oneOf digs (gb s p)=true
  ·rw [if_pos hd]
   obtain ⟨h3,h4⟩:=dig_L hb f (p + 1) (by omega) hd.1.2
   have hq:=(digE_bd (s:=s) (bad:=bad) f (p + 1)).1
   rw [drop_c hd.1.2,List.dropWhile_cons_of_pos (show isDig (gb s p)=true from hd.2),List.takeWhile_cons_of_pos (show isDig (gb s p)=true from hd.2)]
   refine ⟨h3, ?_⟩
   rw [← h4]
   unfold digT
   rw [drop_c hd.1.2,show digE s bad f (p + 1) - p=(digE s bad f (p + 1) - (p + 1)) + 1 by omega,List.take_succ_cons]
  ·rw [if_neg hd]
   by_cases hp:p < s.length
   ·have:¬ isDig (gb s p)=true:=fun h=>hd ⟨⟨hb,hp⟩,h⟩
    rw [drop_c hp,List.dropWhile_cons_of_neg this,List.takeWhile_cons_of_neg this]
    exact ⟨rfl,by simp [digT]⟩
   ·rw [drop_nil.2 hp];exact ⟨rfl,by simp [digT]⟩
theorem num_L (hb:bad < 0) (hp:p≤s.length):match numL (s.drop p) with
  | none=>(numF s p bad).2.1=false
  | some (v,t)=>(numF s p bad).1=v∧(numF s p bad).2.1=true∧s.drop (numF s p bad).2.2=t∧(numF s p bad).2.2≤s.length:=by
 obtain ⟨h1,h2⟩:=dig_L (s:=s) hb (s.length + 1) p (by omega) hp
 have h3:=(digE_bd (s:=s) (bad:=bad) (s.length + 1) p).2 hp
 unfold numL numF
 rw [h2]
 dsimp only
 by_cases h:(parseF ((s.drop p).takeWhile isDig)).2=true∧(parseF ((s.drop p).takeWhile isDig)).1≤20
 ·rw [if_pos h];exact ⟨rfl,by rw [h.1];simp [h.2],h1,h3⟩
 ·rw [if_neg h]
  dsimp only
  cases hk:(parseF ((s.drop p).takeWhile isDig)).2 with
  | false=>rfl
  | true=>simp only [Bool.true_and,decide_eq_false_iff_not];exact fun g=>h ⟨hk,g⟩
theorem num_rest {t r:List UInt8} {v:Int} (h:numL t=some (v,r)):r.length≤t.length:=by
 unfold numL at h
 split at h
 ·cases h;exact (List.dropWhile_suffix _).length_le
 ·cases h
theorem tail_le {t:List UInt8}:t.tail.length≤t.length:=by simp
theorem brc_L (hb:bad < 0) (hp:p≤s.length):match brcL (s.drop p) with
  | none=>(brcF s p bad).1.2.2=false
  | some (a,b,t)=>(brcF s p bad).1=(a,b,true)∧s.drop (brcF s p bad).2=t∧(brcF s p bad).2≤s.length:=by
 have c1:(125:UInt8)≠0:=by decide
 have c2:(44:UInt8)≠0:=by decide
 have h:=num_L (s:=s) hb hp
 unfold brcF brcL
 dsimp only
 generalize numF s p bad=a at *
 obtain ⟨v,k,q⟩:=a
 dsimp only at h ⊢
 cases hm:numL (s.drop p) with
 | none =>
  rw [hm] at h
  dsimp only at h
  subst h
  rw [if_pos rfl]
 | some r =>
  obtain ⟨x,t⟩:=r
  rw [hm] at h
  obtain ⟨h1,h2,h3,h4⟩:=h
  subst h1 h2
  rw [if_neg (by simp)]
  dsimp only
  rw [← h3]
  by_cases x1:(s.drop q).headD 0=125
  ·have hq:q < s.length:=gb_lt c1 (by rw [← hd_drop];exact x1)
   rw [if_pos ((nx_iff hb c1).2 x1),if_pos x1,eat_L hb c1,if_pos x1]
   exact ⟨rfl,drop_tail.symm,hq⟩
  rw [if_neg (fun g=>x1 ((nx_iff hb c1).1 g)),if_neg x1]
  have e1:eatP s q bad 125=q:=by rw [eat_L hb c1,if_neg x1]
  rw [e1]
  by_cases x2:(s.drop q).headD 0=44
  ·have hq:q < s.length:=gb_lt c2 (by rw [← hd_drop];exact x2)
   have e2:eatP s q bad 44=q + 1:=by rw [eat_L hb c2,if_pos x2]
   rw [if_neg (show ¬ ¬ nx s q bad 44 from fun g=>g ((nx_iff hb c2).2 x2)),if_pos x2,e2,drop_tail]
   by_cases x3:(s.drop (q + 1)).headD 0=125
   ·have hq2:q + 1 < s.length:=gb_lt c1 (by rw [← hd_drop];exact x3)
    rw [if_pos ((nx_iff hb c1).2 x3),if_pos x3,eat_L hb c1,if_pos x3]
    exact ⟨rfl,drop_tail.symm,hq2⟩
   rw [if_neg (fun g=>x3 ((nx_iff hb c1).1 g)),if_neg x3]
   have e3:eatP s (q + 1) bad 125=q + 1:=by rw [eat_L hb c1,if_neg x3]
   rw [e3]
   have h5:=num_L (s:=s) (p:=q + 1) hb hq
   generalize numF s (q + 1) bad=b at *
   obtain ⟨v2,k2,q2⟩:=b
   dsimp only at h5 ⊢
   cases hm2:numL (s.drop (q + 1)) with
   | none =>
    rw [hm2] at h5
    dsimp only at h5
    subst h5
    rw [if_pos rfl]
   | some r2 =>
    obtain ⟨x5,t2⟩:=r2
    rw [hm2] at h5
    obtain ⟨g1,g2,g3,g4⟩:=h5
    subst g1 g2
    rw [if_neg (by simp)]
    dsimp only
    rw [← g3]
    by_cases x6:(s.drop q2).headD 0=125
    ·have hq3:q2 < s.length:=gb_lt c1 (by rw [← hd_drop];exact x6)
     rw [if_pos ((nx_iff hb c1).2 x6)]
     by_cases x7:v≤v2
     ·rw [if_pos ⟨x6,x7⟩]
      exact ⟨by simp [x7],by rw [eat_L hb c1,if_pos x6];exact drop_tail.symm,by rw [eat_L hb c1,if_pos x6];exact hq3⟩
     ·rw [if_neg (fun g=>x7 g.2)]
      show decide _=false
      simp [x7]
    ·rw [if_neg (fun g=>x6 ((nx_iff hb c1).1 g)),if_neg (fun g=>x6 g.1)]
  ·rw [if_pos (show ¬ nx s q bad 44 from fun g=>x2 ((nx_iff hb c2).1 g)),if_neg x2]
theorem brc_len {t r:List UInt8} {a b:Int} (h:brcL t=some (a,b,r)):r.length≤t.length:=by
 unfold brcL at h
 split at h
 ·cases h
 ·rename_i v t1 hm
  have h1:=num_rest hm
  have h2:=tail_le (t:=t1)
  split at h
  ·cases h;omega
  ·split at h
   ·split at h
    ·cases h;have:=tail_le (t:=t1.tail);omega
    ·split at h
     ·cases h
     ·rename_i v2 t2 hm2
      have h3:=num_rest hm2
      split at h
      ·cases h;have:=tail_le (t:=t2);omega
      ·cases h
   ·cases h
def RelN (s:List UInt8) (r:Rd) (o:RL):Prop:=match o with
 | none=>0≤r.2.2
 | some (n,t)=>r.1=n∧r.2.2 < 0∧s.drop r.2.1=t∧r.2.1≤s.length
theorem atom_L {rec:Nat→Int→Rd} {recL:List UInt8→RL} (hb:bad < 0) (hp:p < s.length) (hr:RelN s (rec (p + 1) bad) (recL (s.drop (p + 1)))):RelN s (atomF rec s p bad) (atomL recL (s.drop p)):=by
 have c1:(41:UInt8)≠0:=by decide
 rw [drop_c hp]
 unfold atomF atomL
 dsimp only
 by_cases k0:gb s p=40
 ·rw [if_pos k0,if_pos k0]
  generalize rec (p + 1) bad=r at *
  obtain ⟨n,q,b⟩:=r
  dsimp only
  cases hm:recL (s.drop (p + 1)) with
  | none =>
   rw [hm] at hr
   have hr':0≤b:=hr
   rw [if_neg (fun g=>by have:=g.1.1;omega)]
   show 0≤(if _ then _ else _:Int)
   split <;> omega
  | some x =>
   obtain ⟨n',t⟩:=x
   rw [hm] at hr
   obtain ⟨h1,h2,h3,h4⟩:=hr
   dsimp only at h1 h2 h3 h4 ⊢
   subst h1
   rw [← h3]
   by_cases x1:(s.drop q).headD 0=41
   ·have hq:q < s.length:=gb_lt c1 (by rw [← hd_drop];exact x1)
    rw [if_pos ((nx_iff h2 c1).2 x1),if_pos x1,eat_L h2 c1,if_pos x1]
    exact ⟨rfl,h2,drop_tail.symm,hq⟩
   ·rw [if_neg (fun g=>x1 ((nx_iff h2 c1).1 g)),if_neg x1]
    show 0≤(if _ then _ else _:Int)
    rw [if_pos h2]
    omega
 rw [if_neg k0,if_neg k0]
 by_cases k1:gb s p=46
 ·rw [if_pos k1,if_pos k1];exact ⟨rfl,hb,rfl,hp⟩
 rw [if_neg k1,if_neg k1]
 by_cases k2:gb s p=94
 ·rw [if_pos k2,if_pos k2];exact ⟨rfl,hb,rfl,hp⟩
 rw [if_neg k2,if_neg k2]
 by_cases k3:gb s p=36
 ·rw [if_pos k3,if_pos k3];exact ⟨rfl,hb,rfl,hp⟩
 rw [if_neg k3,if_neg k3]
 by_cases k4:gb s p=92
 ·rw [if_pos k4,if_pos k4]
  have h:=esc_L (s:=s) (p:=p + 1) hb
  cases hm:escL (s.drop (p + 1)) with
  | none =>
   rw [hm] at h
   have h':(escF s (p + 1) bad).2.1=false:=h
   rw [if_neg (by rw [h'];simp)]
   show (0:Int)≤(p:Int)
   omega
  | some x =>
   obtain ⟨w,t⟩:=x
   rw [hm] at h
   obtain ⟨h1,h2,h3,h4⟩:=h
   rw [if_pos h2,h1]
   exact ⟨rfl,hb,h3,h4⟩
 rw [if_neg k4,if_neg k4]
 by_cases k5:gb s p=91
 ·rw [if_pos k5,if_pos k5]
  have h:=class_L (s:=s) (p:=p + 1) hb hp
  cases hm:classL (s.drop (p + 1)) with
  | none =>
   rw [hm] at h
   have h':(classF s (p + 1) bad).2.1=false:=h
   rw [if_neg (by rw [h'];simp)]
   show (0:Int)≤(p:Int)
   omega
  | some x =>
   obtain ⟨w,t⟩:=x
   rw [hm] at h
   obtain ⟨h1,h2,h3,h4⟩:=h
   rw [if_pos h2,h1]
   exact ⟨rfl,hb,h3,h4⟩
 rw [if_neg k5,if_neg k5]
 by_cases k6:ixB (gb s p).toNat [92,46,91,93,40,41,42,43,63,123,125,124,94,36] 0≥0
 ·rw [if_pos k6,if_pos (show oneOf specials (gb s p)=true from decide_eq_true k6)]
  show (0:Int)≤(p:Int)
  omega
 ·rw [if_neg k6,if_neg (show ¬ oneOf specials (gb s p)=true from fun h=>k6 (of_decide_eq_true h))]
  exact ⟨rfl,hb,rfl,hp⟩
theorem times_bad {n:Node} {q:Nat} {b:Int} (h:0≤b):0≤(pieceG s n q b).2.2:=by
 have hn:∀ (q:Nat) (c:UInt8),¬ nx s q b c:=fun q c g=>by have:=g.1.1;omega
 unfold pieceG
 rw [if_neg (hn _ _),if_neg (hn _ _),if_neg (hn _ _),if_neg (hn _ _)]
 exact h
theorem times_L {n:Node} (hb:bad < 0) (hp:p≤s.length):RelN s (pieceG s n p bad) (timesL n (s.drop p)):=by
 have c1:(42:UInt8)≠0:=by decide
 have c2:(43:UInt8)≠0:=by decide
 have c3:(63:UInt8)≠0:=by decide
 have c4:(123:UInt8)≠0:=by decide
 unfold pieceG timesL
 by_cases x1:(s.drop p).headD 0=42
 ·have hq:p < s.length:=gb_lt c1 (by rw [← hd_drop];exact x1)
  rw [if_pos ((nx_iff hb c1).2 x1),if_pos x1,eat_L hb c1,if_pos x1]
  exact ⟨rfl,hb,drop_tail.symm,hq⟩
 rw [if_neg (fun g=>x1 ((nx_iff hb c1).1 g)),if_neg x1]
 have e1:eatP s p bad 42=p:=by rw [eat_L hb c1,if_neg x1]
 rw [e1]
 by_cases x2:(s.drop p).headD 0=43
 ·have hq:p < s.length:=gb_lt c2 (by rw [← hd_drop];exact x2)
  rw [if_pos ((nx_iff hb c2).2 x2),if_pos x2,eat_L hb c2,if_pos x2]
  exact ⟨rfl,hb,drop_tail.symm,hq⟩
 rw [if_neg (fun g=>x2 ((nx_iff hb c2).1 g)),if_neg x2]
 have e2:eatP s p bad 43=p:=by rw [eat_L hb c2,if_neg x2]
 rw [e2]
 by_cases x3:(s.drop p).headD 0=63
 ·have hq:p < s.length:=gb_lt c3 (by rw [← hd_drop];exact x3)
  rw [if_pos ((nx_iff hb c3).2 x3),if_pos x3,eat_L hb c3,if_pos x3]
  exact ⟨rfl,hb,drop_tail.symm,hq⟩
 rw [if_neg (fun g=>x3 ((nx_iff hb c3).1 g)),if_neg x3]
 have e3:eatP s p bad 63=p:=by rw [eat_L hb c3,if_neg x3]
 rw [e3]
 by_cases x4:(s.drop p).headD 0=123
 ·have hq:p < s.length:=gb_lt c4 (by rw [← hd_drop];exact x4)
  rw [if_pos ((nx_iff hb c4).2 x4),if_pos x4,eat_L hb c4,if_pos x4,drop_tail]
  have h:=brc_L (s:=s) (p:=p + 1) hb hq
  dsimp only
  cases hm:brcL (s.drop (p + 1)) with
  | none =>
   rw [hm] at h
   dsimp only at h
   rw [if_neg (by rw [h];simp)]
   show 0≤(if _ then _ else _:Int)
   rw [if_pos hb]
   omega
  | some x =>
   obtain ⟨lo,hi,t⟩:=x
   rw [hm] at h
   obtain ⟨h1,h2,h3⟩:=h
   rw [if_pos (by rw [h1])]
   exact ⟨by rw [h1],hb,h2,h3⟩
 rw [if_neg (fun g=>x4 ((nx_iff hb c4).1 g)),if_neg x4]
 have e4:eatP s p bad 123=p:=by rw [eat_L hb c4,if_neg x4]
 rw [e4]
 exact ⟨rfl,hb,rfl,hp⟩
theorem piece_L {rec:Nat→Int→Rd} {recL:List UInt8→RL} (hb:bad < 0) (hp:p < s.length) (hr:RelN s (rec (p + 1) bad) (recL (s.drop (p + 1)))):RelN s (pieceF rec s p bad) (pieceL recL (s.drop p)):=by
 have h:=atom_L hb hp hr
 unfold pieceF pieceL
 cases hm:atomL recL (s.drop p) with
 | none =>
  rw [hm] at h
  exact times_bad h
 | some x =>
  obtain ⟨n,t⟩:=x
  rw [hm] at h
  obtain ⟨h1,h2,h3,h4⟩:=h
  rw [h1]
  dsimp only
  rw [← h3]
  exact times_L h2 h4
end
section
variable {s:List UInt8} {p:Nat} {bad:Int}
theorem loopF_bad {rec:Nat→Int→Rd} {f q:Nat} {b:Int} {A O:List Node} (h:0≤b):(loopF rec s f q b A O).2.2.2=b:=by
 cases f with
 | zero=>rfl
 | succ f=>unfold loopF;rw [if_pos (fun g=>by have:=g.1;omega)]
theorem cls_len:∀ {f:Nat} {acc:W4} {first:Bool} {t:List UInt8} {x:W4} {r:List UInt8},clsL f acc first t=some (x,r)→r.length≤t.length
 | 0,_,_,_,_,_,h=>by simp [clsL] at h
 | f + 1,acc,first,t,x,r,h=>by
  unfold clsL at h
  split at h
  ·cases h;simp
  ·split at h
   ·cases h
   ·rename_i y t' hi
    have:=item_len hi
    have:=cls_len h
    omega
theorem class_len {t:List UInt8} {x:W4} {r:List UInt8} (h:classL t=some (x,r)):r.length≤t.length:=by
 unfold classL at h
 split at h
 ·cases h
 ·rename_i a t' hc
  have h1:=cls_len hc
  have h2:(if t.headD 0=94 then t.tail else t).length≤t.length:=by split <;> simp
  split at h
  ·split at h
   ·cases h
   ·cases h;omega
  ·split at h
   ·cases h
   ·cases h;omega
def Dec (rec:List UInt8→RL):Prop:=∀ t n r,rec t=some (n,r)→r.length≤t.length
theorem atom_len {rec:List UInt8→RL} (hr:Dec rec) {t:List UInt8} {n:Node} {r:List UInt8} (h:atomL rec t=some (n,r)):r.length < t.length:=by
 unfold atomL at h
 split at h
 ·cases h
 ·rename_i b t
  simp only [List.length_cons]
  split at h
  ·split at h
   ·cases h
   ·rename_i n' t' hc
    have h1:=hr _ _ _ hc
    split at h
    ·cases h;have:=tail_le (t:=t');omega
    ·cases h
  split at h
  ·cases h;omega
  split at h
  ·cases h;omega
  split at h
  ·cases h;omega
  split at h
  ·split at h
   ·cases h
   ·rename_i x t' he;cases h;have:=esc_len he;omega
  split at h
  ·split at h
   ·cases h
   ·rename_i x t' he;cases h;have:=class_len he;omega
  split at h
  ·cases h
  ·cases h;omega
theorem times_len {m n:Node} {t r:List UInt8} (h:timesL m t=some (n,r)):r.length≤t.length:=by
 unfold timesL at h
 have h1:=tail_le (t:=t)
 split at h
 ·cases h;omega
 split at h
 ·cases h;omega
 split at h
 ·cases h;omega
 split at h
 ·split at h
  ·cases h
  ·rename_i lo hi t' hb;cases h;have:=brc_len hb;omega
 ·cases h;omega
theorem piece_len {rec:List UInt8→RL} (hr:Dec rec) {t:List UInt8} {n:Node} {r:List UInt8} (h:pieceL rec t=some (n,r)):r.length < t.length:=by
 unfold pieceL at h
 split at h
 ·cases h
 ·rename_i m t' ha
  have:=atom_len hr ha
  have:=times_len h
  omega
theorem loop_len {rec:List UInt8→RL} (hr:Dec rec):∀ {f:Nat} {A O:List Node} {t:List UInt8} {A' O':List Node} {r:List UInt8},loopL rec f A O t=some (A',O',r)→r.length≤t.length
 | 0,_,_,_,_,_,_,h=>by simp [loopL] at h
 | f + 1,A,O,t,A',O',r,h=>by
  unfold loopL at h
  split at h
  ·cases h;omega
  split at h
  ·have:=loop_len hr h;have:=tail_le (t:=t);omega
  split at h
  ·cases h
  ·rename_i n t' hp
   have:=piece_len hr hp
   have:=loop_len hr h
   omega
theorem alt_dec:∀ f,Dec (altL f)
 | 0=>fun t n r h=>by simp [altL] at h
 | f + 1=>fun t n r h=>by
  unfold altL at h
  split at h
  ·cases h
  ·rename_i A O t' hl
   cases h
   exact loop_len (alt_dec f) hl
theorem loop_fuel {rec:List UInt8→RL} (hr:Dec rec):∀ (f g:Nat) (A O:List Node) (t:List UInt8),t.length < f→t.length < g→loopL rec f A O t=loopL rec g A O t
 | 0,_,_,_,_,h,_=>by omega
 | _ + 1,0,_,_,_,_,h=>by omega
 | f + 1,g + 1,A,O,t,h1,h2=>by
  unfold loopL
  split
  ·rfl
  ·rename_i h3
   have hlt:t.tail.length < t.length:=by
    cases t with
    | nil=>exact absurd (.inl rfl) h3
    | cons c t=>simp
   split
   ·exact loop_fuel hr f g _ _ _ (by omega) (by omega)
   ·split
    ·rfl
    ·rename_i n t' hp
     have:=piece_len hr hp
     exact loop_fuel hr f g _ _ _ (by omega) (by omega)
theorem loop_L {rec:Nat→Int→Rd} {recL:List UInt8→RL}:∀ (f p:Nat) (bad:Int) (A O:List Node),bad < 0→p≤s.length→s.length < f + p→(∀ q b,b < 0→p < q→q≤s.length→RelN s (rec q b) (recL (s.drop q)))→(∀ q b,p < q→q≤s.length→Btw s q (rec q b).2.1) →
  match loopL recL f A O (s.drop p) with
  | none=>0≤(loopF rec s f p bad A O).2.2.2
  | some (A',O',t)=>(loopF rec s f p bad A O).1=A'∧(loopF rec s f p bad A O).2.1=O'∧(loopF rec s f p bad A O).2.2.2 < 0∧s.drop (loopF rec s f p bad A O).2.2.1=t∧(loopF rec s f p bad A O).2.2.1≤s.length
 | 0,p,bad,A,O,hb,hp,h,_,_=>by omega
 | f + 1,p,bad,A,O,hb,hp,h,hr,hr1=>by
  have c1:(124:UInt8)≠0:=by decide
  have c2:(41:UInt8)≠0:=by decide
  have o41:∀ c:UInt8,oneOf [41] c=true↔c=41:=fun c=>by
   unfold oneOf ixB
   by_cases hc:c=41
   ·subst hc;decide
   ·have:Nat.beq (41:UInt8).toNat c.toNat=false:=by
     rw [Bool.eq_false_iff]
     intro h2
     apply hc
     have h3:=Nat.eq_of_beq_eq_true h2
     exact (UInt8.toNat_inj.1 h3).symm
    rw [this]
    simp [ixB,hc]
  unfold loopF loopL
  by_cases x0:p < s.length
  ·rw [if_neg (show ¬ ¬ (bad < 0∧p < s.length) from fun g=>g ⟨hb,x0⟩)]
   have hne:¬ s.drop p=[]:=fun g=>(drop_nil.1 g) x0
   by_cases x1:(s.drop p).headD 0=41
   ·have x1':gb s p=41:=by rw [← hd_drop];exact x1
    rw [if_pos (show (bad < 0∧p < s.length)∧oneOf [41] (gb s p)=true from ⟨⟨hb,x0⟩,(o41 _).2 x1'⟩),if_pos (.inr x1)]
    exact ⟨rfl,rfl,hb,rfl,hp⟩
   ·have x1':¬ gb s p=41:=by rw [← hd_drop];exact x1
    rw [if_neg (show ¬ ((bad < 0∧p < s.length)∧oneOf [41] (gb s p)=true) from fun g=>x1' ((o41 _).1 g.2)),if_neg (show ¬ (s.drop p=[]∨(s.drop p).headD 0=41) from fun g=>g.elim hne x1)]
    by_cases x2:(s.drop p).headD 0=124
    ·rw [if_pos ((nx_iff hb c1).2 x2),if_pos x2,eat_L hb c1,if_pos x2,drop_tail]
     exact loop_L f (p + 1) bad _ _ hb x0 (by omega) (fun q b h1 h2 h3=>hr q b h1 (by omega) h3) (fun q b h2 h3=>hr1 q b (by omega) h3)
    ·rw [if_neg (show ¬ nx s p bad 124 from fun g=>x2 ((nx_iff hb c1).1 g)),if_neg x2]
     have e:eatP s p bad 124=p:=by rw [eat_L hb c1,if_neg x2]
     rw [e]
     dsimp only
     have h1:=piece_L hb x0 (hr (p + 1) bad hb (by omega) x0)
     have h2:=pieceF_b (bad:=bad) x0 (fun b=>hr1 (p + 1) b (by omega) x0)
     cases hm:pieceL recL (s.drop p) with
     | none =>
      rw [hm] at h1
      show 0≤_
      rw [loopF_bad h1]
      exact h1
     | some x =>
      obtain ⟨n,t⟩:=x
      rw [hm] at h1
      obtain ⟨g1,g2,g3,g4⟩:=h1
      dsimp only
      rw [g1,← g3]
      exact loop_L f _ _ _ _ g2 g4 (by have:=h2.1;omega) (fun q b h3 h4 h5=>hr q b h3 (by have:=h2.1;omega) h5) (fun q b h4 h5=>hr1 q b (by have:=h2.1;omega) h5)
  ·rw [if_pos (show ¬ (bad < 0∧p < s.length) from fun g=>x0 g.2),if_pos (.inl (drop_nil.2 x0))]
   exact ⟨rfl,rfl,hb,rfl,hp⟩
theorem alt_L:∀ (f p:Nat) (bad:Int),bad < 0→p≤s.length→s.length < f + p→RelN s (altF s f p bad) (altL f (s.drop p))
 | 0,p,bad,hb,hp,h=>by omega
 | f + 1,p,bad,hb,hp,h=>by
  have h1:=loop_L (s:=s) (rec:=altF s f) (recL:=altL f) (s.length + 1) p bad [] [] hb hp (by omega) (fun q b h1 h2 h3=>alt_L f q b h1 h3 (by omega)) (fun q b _ h3=>(altF_all f q b h3).1)
  unfold altF altL
  rw [loop_fuel (alt_dec f) ((s.drop p).length + 1) (s.length + 1) [] [] (s.drop p) (by omega) (by simp only [List.length_drop];omega)]
  dsimp only
  cases hm:loopL (altL f) (s.length + 1) [] [] (s.drop p) with
  | none=>rw [hm] at h1;exact h1
  | some x =>
   obtain ⟨A,O,t⟩:=x
   rw [hm] at h1
   obtain ⟨g1,g2,g3,g4,g5⟩:=h1
   rw [g1,g2]
   exact ⟨rfl,g3,g4,g5⟩
theorem atom_cong {rec rec':List UInt8→RL} {t:List UInt8} (h:∀ r,r.length < t.length→rec r=rec' r):atomL rec t=atomL rec' t:=by
 cases t with
 | nil=>rfl
 | cons b t=>unfold atomL;dsimp only;rw [h t (by simp)]
theorem loop_cong {rec rec':List UInt8→RL} (hd:Dec rec'):∀ (f:Nat) (A O:List Node) (t:List UInt8),(∀ r,r.length < t.length→rec r=rec' r)→loopL rec f A O t=loopL rec' f A O t
 | 0,_,_,_,_=>rfl
 | f + 1,A,O,t,h=>by
  unfold loopL pieceL
  rw [atom_cong h]
  split
  ·rfl
  ·rename_i h3
   split
   ·exact loop_cong hd f _ _ _ fun r hr=>h r (by have:=tail_le (t:=t);omega)
   ·cases hm:atomL rec' t with
    | none=>rfl
    | some x =>
     obtain ⟨n,t'⟩:=x
     dsimp only
     cases hm2:timesL n t' with
     | none=>rfl
     | some y =>
      obtain ⟨n2,t2⟩:=y
      have h4:=atom_len hd hm
      have h5:=times_len hm2
      exact loop_cong hd f _ _ _ fun r hr=>h r (by omega)
theorem alt_fuel:∀ (f g:Nat) (t:List UInt8),t.length < f→t.length < g→altL f t=altL g t
 | 0,_,_,h,_=>by omega
 | _ + 1,0,_,_,h=>by omega
 | f + 1,g + 1,t,h1,h2=>by
  unfold altL
  rw [loop_cong (alt_dec g) _ _ _ t fun r hr=>alt_fuel f g r (by omega) (by omega)]
def rdA (t:List UInt8):RL:=altL (t.length + 1) t
def rdP (t:List UInt8):RL:=pieceL rdA t
def rdO (A O:List Node) (t:List UInt8):Option (List Node × List Node × List UInt8):=loopL rdA (t.length + 1) A O t
theorem rdA_dec:Dec rdA:=fun t n r h=>alt_dec _ t n r h
theorem rdA_eq (t:List UInt8):rdA t=match rdO [] [] t with
  | none=>none
  | some (A,O,t')=>some (endF (A++[catF O]),t'):=by
 show altL (t.length + 1) t=_
 unfold altL rdO
 rw [loop_cong rdA_dec _ _ _ t fun r hr=>alt_fuel _ _ r (by omega) (by omega)]
 try rfl
theorem rdO_eq (A O:List Node) (t:List UInt8):rdO A O t=if t=[]∨t.headD 0=41 then some (A,O,t) else if t.headD 0=124 then rdO (A++[catF O]) [] t.tail else match rdP t with
  | none=>none
  | some (n,t')=>rdO A (O++[n]) t':=by
 show loopL rdA (t.length + 1) A O t=_
 unfold loopL rdO rdP
 split
 ·rfl
 ·rename_i h3
  have hlt:t.tail.length < t.length:=by
   cases t with
   | nil=>exact absurd (.inl rfl) h3
   | cons c t=>simp
  split
  ·exact loop_fuel rdA_dec _ _ _ _ _ (by omega) (by omega)
  ·cases hm:pieceL rdA t with
   | none=>rfl
   | some x =>
    obtain ⟨n,t'⟩:=x
    have:=piece_len rdA_dec hm
    exact loop_fuel rdA_dec _ _ _ _ _ (by omega) (by omega)
theorem parse_L {t:List UInt8} (hl:t.length≤256):(∀ n,rdA t=some (n,[])→n.size≤200→parseM t=(n,t.length,0))∧(∀ n,rdA t=some (n,[])→200 < n.size→parseM t=(.empty,t.length,4)) ∧
  ((∀ n,rdA t≠some (n,[]))→(parseM t).1 = .empty∧(parseM t).2.2=2):=by
 have h:=alt_L (s:=t) 257 0 (-1) (by omega) (by omega) (by omega)
 rw [List.drop_zero,alt_fuel 257 (t.length + 1) t (by omega) (by omega)] at h
 have hA:altL (t.length + 1) t=rdA t:=rfl
 rw [hA] at h
 unfold parseM
 rw [if_neg (show ¬ 256 < t.length by omega)]
 refine ⟨fun n hn hz => ?_,fun n hn hz => ?_,fun hn => ?_⟩
 ·rw [hn] at h
  obtain ⟨h1,h2,h3,h4⟩:=h
  have h5:¬ (altF t 257 0 (-1)).2.1 < t.length:=drop_nil.1 h3
  rw [if_neg (by omega),if_neg h5,h1,if_neg (by omega)]
 ·rw [hn] at h
  obtain ⟨h1,h2,h3,h4⟩:=h
  have h5:¬ (altF t 257 0 (-1)).2.1 < t.length:=drop_nil.1 h3
  rw [if_neg (by omega),if_neg h5,h1,if_pos hz]
 ·by_cases h1:0≤(altF t 257 0 (-1)).2.2
  ·rw [if_pos h1];exact ⟨rfl,rfl⟩
  ·rw [if_neg h1]
   by_cases h2:(altF t 257 0 (-1)).2.1 < t.length
   ·rw [if_pos h2];exact ⟨rfl,rfl⟩
   ·exfalso
    cases hm:rdA t with
    | none=>rw [hm] at h;exact h1 h
    | some x =>
     obtain ⟨n,r⟩:=x
     rw [hm] at h
     obtain ⟨_,_,h3,_⟩:=h
     refine hn n ?_
     rw [hm,← h3,drop_nil.2 h2]
end
abbrev bsV (l:List UInt8):List AV:=l.map fun c=>AV.int .u8 (c.toNat:Int)
section
variable {t:List UInt8} {p:Nat} {bad:Int}
def quant (c:UInt8):Bool:=c==42||(c==43||(c==63||c==123))
theorem o41 {c:UInt8}:oneOf [41] c=true↔c=41:=by
 unfold oneOf ixB
 by_cases hc:c=41
 ·subst hc;decide
 ·have:Nat.beq (41:UInt8).toNat c.toNat=false:=by
   rw [Bool.eq_false_iff]
   intro h2
   exact hc (UInt8.toNat_inj.1 (Nat.eq_of_beq_eq_true h2)).symm
  rw [this]
  simp [ixB,hc]
end
def escT (b:UInt8) (some:List UInt8):List UInt8:=if oneOf some b=true then [92,b] else [b]
theorem es_1 {m:Int} {fl:Nat} {hp:List Blk} {b:UInt8} {l:List UInt8} (h:ixB b.toNat l 0≥0):evI (cfg m) fl 51 [.int .u8 (b.toNat:Int), .str l] hp=some (.str [92,b],hp):=by
 exact evX (AV.str ((ByteArray.mk #[92]).data.toList++[UInt8.ofNat b.toNat])) (hp) [.c 1 2 (ix49 (m:=m) (fl:=hp.length) (hp:=hp) (s:=l) (c:=b)), .b 1 3 (decide_eq_true (h))] (by kernel_rfl) (tlP (by kernel_rfl) rfl (shutT (v:=AV.str ((ByteArray.mk #[92]).data.toList++[UInt8.ofNat b.toNat])) (v':=AV.str ((ByteArray.mk #[92]).data.toList++[UInt8.ofNat b.toNat])) (by kernel_rfl))) (by rw [UInt8.ofNat_toNat];rfl)
theorem es_0 {m:Int} {fl:Nat} {hp:List Blk} {b:UInt8} {l:List UInt8} (h:¬ ixB b.toNat l 0≥0):evI (cfg m) fl 51 [.int .u8 (b.toNat:Int), .str l] hp=some (.str [b],hp):=by
 exact evX (AV.str [UInt8.ofNat b.toNat]) (hp) [.c 1 2 (ix49 (m:=m) (fl:=hp.length) (hp:=hp) (s:=l) (c:=b)), .b 1 3 (decide_eq_false (h))] (by kernel_rfl) (tlP (by kernel_rfl) rfl (shutT (v:=AV.str [UInt8.ofNat b.toNat]) (v':=AV.str [UInt8.ofNat b.toNat]) (by kernel_rfl))) (by rw [UInt8.ofNat_toNat])
theorem es_ok {m:Int} {fl:Nat} {hp:List Blk} {b:UInt8} {l:List UInt8}:evI (cfg m) fl 51 [.int .u8 (b.toNat:Int), .str l] hp=some (.str (escT b l),hp):=by
 unfold escT oneOf
 by_cases h:ixB b.toNat l 0≥0
 ·rw [if_pos (decide_eq_true h)];exact es_1 h
 ·rw [if_neg (by simpa using h)];exact es_0 h
theorem es_nat {m:Int} {fl n:Nat} {hp:List Blk} {l:List UInt8} (hn:n < 256):evI (cfg m) fl 51 [.int .u8 (n:Int), .str l] hp=some (.str (escT (UInt8.ofNat n) l),hp):=by
 have:n=(UInt8.ofNat n).toNat:=by rw [UInt8.toNat_ofNat'];exact (Nat.mod_eq_of_lt hn).symm
 have h:=es_ok (m:=m) (fl:=fl) (hp:=hp) (b:=UInt8.ofNat n) (l:=l)
 rw [← this] at h
 exact h
abbrev spS:List UInt8:=[92,46,91,93,40,41,42,43,63,123,125,124,94,36]
abbrev icS:List UInt8:=[92,93,45,94]
def clsT:List (Nat × Nat)→List UInt8
 | []=>[]
 | r::l=>(escT (UInt8.ofNat r.1) icS++(if r.1 < r.2 then 45::escT (UInt8.ofNat r.2) icS else []))++clsT l
theorem es_len {b:UInt8} {l:List UInt8}:(escT b l).length≤2:=by unfold escT;split <;> simp
theorem ecat_1 {t l:List UInt8} {b:UInt8} (ht:t.length < 1000000):t.length + (escT b l).length≤9223372036854775807:=by have:=es_len (b:=b) (l:=l);omega
theorem ecat_3 {t l:List UInt8} {a b:UInt8} (ht:t.length < 1000000):(t++escT a l).length + ([45]++escT b l).length≤9223372036854775807:=by have:=es_len (b:=b) (l:=l);have:=es_len (b:=a) (l:=l);simp;omega
abbrev spSt (o:AV) (t:List UInt8) (nv i:Nat):List TV:=[J,J,J,J, .v (.str t)]++List.replicate 17 J++[.v o, .v (AI nv), .v (AI i)]++List.replicate 22 J
abbrev spEnd (t:List UInt8):List TV:=[J,J,J,J, .v (.str t)]++List.replicate 42 J
theorem sp_0 {m:Int} {fl nv i a b:Nat} {hp:List Blk} {o:AV} {t:List UInt8} {vs:List AV} (ho:IsSl 2 o vs) (hv:vs[i]?=some (.agg [.int .u8 (a:Int), .int .u8 (b:Int)])) (hi:i < nv) (hnv:nv < 1000) (ht:t.length < 1000000) (ha:a < 256) (hb:b < 256) (hab:¬ a < b):LoopS (cfg m) fl 36 (bodyAt (cfg m) 36 8) 8 ⟨spSt o t nv i,hp⟩ ⟨spSt o (t++escT (UInt8.ofNat a) icS) nv (i + 1),hp⟩:=by
 exact loopStepS (St.mk [J,J,J,J,TV.v (AV.str (t++escT (UInt8.ofNat a) [92,93,45,94])),J,J,J,J,J,J,J,J,J,J,J,J,J,J,J,J,J,TV.v o,TV.v (AI nv),TV.v (AI ((↑i:Int) + 1)),J,J,J,J,J,J,J,J,J,J,J,J,J,J,J,J,J,J,J,J,J,J] hp) [.b 8 0 (decide_eq_true ((show (↑i:Int) < (↑nv:Int) from (by omega)))), .a 9 0 (indexAddr_sl (C:=cfg m) (t:=88) (n:=(↑i:Int)) ho (by kernel_rfl) (by omega) hv), .c 10 3 (es_nat (m:=m) (fl:=fl) (hp:=hp) (l:=[92,93,45,94]) ha), .v 10 4 (strOp_add (x:=t) (y:=escT (UInt8.ofNat a) [92,93,45,94]) (ecat_1 (l:=[92,93,45,94]) (b:=UInt8.ofNat a) ht)), .b 11 4 (decide_eq_false ((show ¬(↑b:Int) > (↑a:Int) from (by omega)))), .w 13 0 IntKind.i64 ((↑i:Int) + 1) (wrap_i64' (by omega))] (by kernel_rfl) rfl
theorem sp_1 {m:Int} {fl nv i a b:Nat} {hp:List Blk} {o:AV} {t:List UInt8} {vs:List AV} (ho:IsSl 2 o vs) (hv:vs[i]?=some (.agg [.int .u8 (a:Int), .int .u8 (b:Int)])) (hi:i < nv) (hnv:nv < 1000) (ht:t.length < 1000000) (ha:a < 256) (hb:b < 256) (hab:a < b):LoopS (cfg m) fl 36 (bodyAt (cfg m) 36 8) 8 ⟨spSt o t nv i,hp⟩ ⟨spSt o (t++escT (UInt8.ofNat a) icS++([45]++escT (UInt8.ofNat b) icS)) nv (i + 1),hp⟩:=by
 exact loopStepS (St.mk [J,J,J,J,TV.v (AV.str (t++escT (UInt8.ofNat a) [92,93,45,94]++([45]++escT (UInt8.ofNat b) [92,93,45,94]))),J,J,J,J,J,J,J,J,J,J,J,J,J,J,J,J,J,TV.v o,TV.v (AI nv),TV.v (AI ((↑i:Int) + 1)),J,J,J,J,J,J,J,J,J,J,J,J,J,J,J,J,J,J,J,J,J,J] hp) [.b 8 0 (decide_eq_true ((show (↑i:Int) < (↑nv:Int) from (by omega)))), .a 9 0 (indexAddr_sl (C:=cfg m) (t:=88) (n:=(↑i:Int)) ho (by kernel_rfl) (by omega) hv), .c 10 3 (es_nat (m:=m) (fl:=fl) (hp:=hp) (l:=[92,93,45,94]) ha), .v 10 4 (strOp_add (x:=t) (y:=escT (UInt8.ofNat a) [92,93,45,94]) (ecat_1 (l:=[92,93,45,94]) (b:=UInt8.ofNat a) ht)), .b 11 4 (decide_eq_true ((show (↑b:Int) > (↑a:Int) from (by omega)))), .c 12 3 (es_nat (m:=m) (fl:=fl) (hp:=hp) (l:=[92,93,45,94]) hb), .v 12 4 (strOp_add (x:=[45]) (y:=escT (UInt8.ofNat b) [92,93,45,94]) (ecat_1 (t:=[45]) (l:=[92,93,45,94]) (b:=UInt8.ofNat b) (by simp only [setAt_length,List.length_append,List.length_cons,List.length_nil,List.length_map] at *;omega))), .v 12 5 (strOp_add (x:=t++escT (UInt8.ofNat a) [92,93,45,94]) (y:=[45]++escT (UInt8.ofNat b) [92,93,45,94]) (ecat_3 (l:=[92,93,45,94]) (a:=UInt8.ofNat a) (b:=UInt8.ofNat b) ht)), .w 13 0 IntKind.i64 ((↑i:Int) + 1) (wrap_i64' (by omega))] (by kernel_rfl) rfl
theorem sp_x {m:Int} {fl nv i:Nat} {hp:List Blk} {o:AV} {t:List UInt8} (hi:nv≤i):LoopI (cfg m) fl 36 (bodyAt (cfg m) 36 8) 8 ⟨spSt o t nv i,hp⟩ (.exit 1) ⟨spEnd t,hp⟩:=by
 exact loopEndC (.exit 1) (St.mk ([J,J,J,J,TV.v (AV.str t)]++Jn 42) hp) [.b 8 0 (decide_eq_false ((show ¬(↑i:Int) < (↑nv:Int) from (by omega))))] (by kernel_rfl) (fun h=>by cases h) rfl
theorem eq_dot {m:Int} {s:W4}:binE (cfg m) .eql 40 false (.agg [wAV s.a,wAV s.b,wAV s.c,wAV s.d]) (.agg [.int .u64 18446744073709550591, .int .u64 18446744073709551615, .int .u64 18446744073709551615, .int .u64 18446744073709551615])=some (.bool (decide (s=dotS))):=by
 have e:dotS=⟨18446744073709550591#64,18446744073709551615#64,18446744073709551615#64,18446744073709551615#64⟩:=by decide +kernel
 rw [e]
 exact eqW4 (a:=s.a) (b:=s.b) (c:=s.c) (d:=s.d) (a':=18446744073709550591#64) (b':=18446744073709551615#64) (c':=18446744073709551615#64) (d':=18446744073709551615#64) (by kernel_rfl)
theorem put_dot {m:Int} {fl:Nat} {hp:List Blk} {s:W4} (h:s=dotS):evI (cfg m) fl 36 [.agg [wAV s.a,wAV s.b,wAV s.c,wAV s.d]] hp=some (.str [46],hp):=by
 obtain ⟨o1,e2,h3⟩:=(runs_ok (m:=m) (fl:=hp.length) (s:=s) (hp:=hp))
 exact evX (AV.str [46]) (hp) [.c 1 1 e2, .c 2 1 (dot_ok (m:=m) (fl:=hp.length) (hp:=hp)), .vb 2 2 (eq_dot (m:=m) (s:=s)) (decide_eq_true (h))] (by kernel_rfl) (tlP (by kernel_rfl) rfl (shutT (v:=AV.str [46]) (v':=AV.str [46]) (by kernel_rfl))) rfl
theorem put_1 {m:Int} {fl lo hi:Nat} {hp:List Blk} {s:W4} {o:AV} {rs:List AV} (h:¬ s=dotS) (h1:((W4.cntTo s 256:Nat):Int)=1) (hr:evI (cfg m) hp.length 48 [.agg [wAV s.a,wAV s.b,wAV s.c,wAV s.d]] hp=some (o,hp)) (ho:IsSl 2 o rs) (hv:rs[0]?=some (.agg [.int .u8 (lo:Int), .int .u8 (hi:Int)])) (hl:lo < 256):evI (cfg m) fl 36 [.agg [wAV s.a,wAV s.b,wAV s.c,wAV s.d]] hp=some (.str (escT (UInt8.ofNat lo) spS),hp):=by
 exact evX (AV.str (escT (UInt8.ofNat lo) [92,46,91,93,40,41,42,43,63,123,125,124,94,36])) (hp) [.c 1 1 hr, .c 2 1 (dot_ok (m:=m) (fl:=hp.length) (hp:=hp)), .vb 2 2 (eq_dot (m:=m) (s:=s)) (decide_eq_false (h)), .c 4 1 (many_ok (m:=m) (fl:=hp.length) (hp:=hp) (s:=s)), .b 4 2 (beq_iff_eq.2 (h1)), .a 5 1 (indexAddr_sl (C:=cfg m) (t:=88) (n:=0) ho (by kernel_rfl) (by omega) hv), .c 5 4 (es_nat (m:=m) (fl:=hp.length) (hp:=hp) (l:=[92,46,91,93,40,41,42,43,63,123,125,124,94,36]) hl)] (by kernel_rfl) (tlP (by kernel_rfl) rfl (shutT (v:=AV.str (escT (UInt8.ofNat lo) [92,46,91,93,40,41,42,43,63,123,125,124,94,36])) (v':=AV.str (escT (UInt8.ofNat lo) [92,46,91,93,40,41,42,43,63,123,125,124,94,36])) (by kernel_rfl))) rfl
theorem put_n {m:Int} {fl:Nat} {hp:List Blk} {s:W4} {o:AV} {rs:List AV} {t:List UInt8} (h:¬ s=dotS) (h1:¬ ((W4.cntTo s 256:Nat):Int)=1) (hr:evI (cfg m) hp.length 48 [.agg [wAV s.a,wAV s.b,wAV s.c,wAV s.d]] hp=some (o,hp)) (ho:IsSl 2 o rs) (hlp:LoopI (cfg m) hp.length 36 (bodyAt (cfg m) 36 8) 8 ⟨spSt o [91] rs.length 0,hp⟩ (.exit 1) ⟨spEnd t,hp⟩) (ht:t.length < 1000000):evI (cfg m) fl 36 [.agg [wAV s.a,wAV s.b,wAV s.c,wAV s.d]] hp=some (.str (t++[93]),hp):=by
 exact evX (AV.str (t++[93])) (hp) [.c 1 1 hr, .c 2 1 (dot_ok (m:=m) (fl:=hp.length) (hp:=hp)), .vb 2 2 (eq_dot (m:=m) (s:=s)) (decide_eq_false (h)), .c 4 1 (many_ok (m:=m) (fl:=hp.length) (hp:=hp) (s:=s)), .b 4 2 (beq_false_of_ne (h1)), .m 7 1 (len_sl (C:=cfg m) (t:=88) (ts':=[]) (fl:=hp.length) (ar:=false) (hp:=hp) ho (by kernel_rfl)), .l 8 hlp, .v 14 1 (strOp_add (x:=t) (y:=[93]) (by simp only [setAt_length,List.length_append,List.length_cons,List.length_nil,List.length_map] at *;omega))] (by kernel_rfl) (tlP (by kernel_rfl) rfl (shutT (v:=AV.str (t++[93])) (v':=AV.str (t++[93])) (by kernel_rfl))) rfl
theorem dDig_len:∀ (f u:Nat),(dDig f u).length≤f
 | 0,_=>by simp [dDig]
 | f + 1,u=>by
  unfold dDig
  cases Nat.blt u 10
  ·simp only [cond_false rfl,List.length_append,List.length_cons,List.length_nil];have:=dDig_len f (u / 10);omega
  ·simp only [cond_true rfl,List.length_cons,List.length_nil];omega
theorem itoa_len {n:Int}:(itoaE n).length≤21:=by
 unfold itoaE
 cases decide (n < 0)
 ·simp only [cond_false rfl];have:=dDig_len 20 n.toNat;omega
 ·simp only [cond_true rfl,List.length_cons];have:=dDig_len 20 n.natAbs;omega
theorem tcat_1 {n:Int}:[(123:UInt8)].length + (itoaE n).length≤9223372036854775807:=by have:=itoa_len (n:=n);simp;omega
theorem tcat_2 {n:Int}:([123]++itoaE n).length + [(125:UInt8)].length≤9223372036854775807:=by have:=itoa_len (n:=n);simp;omega
theorem tcat_3 {n:Int}:([123]++itoaE n).length + [(44:UInt8)].length≤9223372036854775807:=by have:=itoa_len (n:=n);simp;omega
theorem tcat_4 {n:Int}:([123]++itoaE n++[44]).length + [(125:UInt8)].length≤9223372036854775807:=by have:=itoa_len (n:=n);simp;omega
theorem tcat_6 {n k:Int}:([123]++itoaE n).length + ([44]++itoaE k).length≤9223372036854775807:=by have:=itoa_len (n:=n);have:=itoa_len (n:=k);simp;omega
theorem tcat_7 {n k:Int}:([123]++itoaE n++([44]++itoaE k)).length + [(125:UInt8)].length≤9223372036854775807:=by have:=itoa_len (n:=n);have:=itoa_len (n:=k);simp;omega
theorem tm_1 {m:Int} {fl:Nat} {hp:List Blk} {n:Node} {ks:AV} (h:n.mn=0) (h2:n.mx = -1):evI (cfg m) fl 39 [nAV n ks] hp=some (.str [42],hp):=by
 exact evX (AV.str [42]) (hp) [.b 1 2 (beq_iff_eq.2 (h)), .b 1 6 (beq_iff_eq.2 (h2))] (by kernel_rfl) (tlP (by kernel_rfl) rfl (shutT (v:=AV.str [42]) (v':=AV.str [42]) (by kernel_rfl))) rfl
theorem tm_2 {m:Int} {fl:Nat} {hp:List Blk} {n:Node} {ks:AV} (h:n.mn=1) (h2:n.mx = -1):evI (cfg m) fl 39 [nAV n ks] hp=some (.str [43],hp):=by
 exact evX (AV.str [43]) (hp) [.b 1 2 (beq_false_of_ne ((show ¬n.mn=0 from (by omega)))), .b 3 2 (beq_iff_eq.2 (h)), .b 3 6 (beq_iff_eq.2 (h2))] (by kernel_rfl) (tlP (by kernel_rfl) rfl (shutT (v:=AV.str [43]) (v':=AV.str [43]) (by kernel_rfl))) rfl
theorem tm_3 {m:Int} {fl:Nat} {hp:List Blk} {n:Node} {ks:AV} (h:n.mn=0) (h2:n.mx=1):evI (cfg m) fl 39 [nAV n ks] hp=some (.str [63],hp):=by
 exact evX (AV.str [63]) (hp) [.b 1 2 (beq_iff_eq.2 (h)), .b 1 6 (beq_false_of_ne ((show ¬n.mx = -1 from (by omega)))), .b 3 2 (beq_false_of_ne ((show ¬n.mn=1 from (by omega)))), .b 5 2 (beq_iff_eq.2 (h)), .b 5 6 (beq_iff_eq.2 (h2))] (by kernel_rfl) (tlP (by kernel_rfl) rfl (shutT (v:=AV.str [63]) (v':=AV.str [63]) (by kernel_rfl))) rfl
theorem tm_4 {m:Int} {fl:Nat} {hp:List Blk} {n:Node} {ks:AV} (h1:¬ (n.mn=0∧n.mx = -1)) (h2:¬ (n.mn=1∧n.mx = -1)) (h3:¬ (n.mn=0∧n.mx=1)) (h4:n.mx=n.mn) (hb : -9223372036854775808≤n.mn) (hb2:n.mn≤9223372036854775807):evI (cfg m) fl 39 [nAV n ks] hp=some (.str ([123]++itoaE n.mn++[125]),hp):=by
 have zz1:=strOp_add (x:=[123]) (y:=itoaE n.mn) (tcat_1 (n:=n.mn))
 have zz0:=strOp_add (x:=[123]++itoaE n.mn) (y:=[125]) (tcat_2 (n:=n.mn))
 by_cases h1:n.mn=0
 ·exact evX (AV.str ([123]++itoaE n.mn++[125])) (hp) [.b 1 2 (beq_iff_eq.2 h1), .b 1 6 (beq_false_of_ne ((show ¬n.mx = -1 from (by omega)))), .b 3 2 (beq_false_of_ne ((show ¬n.mn=1 from (by omega)))), .b 5 2 (beq_iff_eq.2 (h1)), .b 5 6 (beq_false_of_ne ((show ¬n.mx=1 from (by omega)))), .c 7 2 (tx_ok (m:=m) (fl:=hp.length) (hp:=hp) (n:=n.mn) hb hb2), .v 7 3 zz1, .b 10 2 (beq_iff_eq.2 (h4)), .v 13 1 zz0] (by kernel_rfl) (tlP (by kernel_rfl) rfl (shutT (v:=AV.str ([123]++itoaE n.mn++[125])) (v':=AV.str ([123]++itoaE n.mn++[125])) (by kernel_rfl))) rfl
 ·by_cases h2:n.mn=1
  ·exact evX (AV.str ([123]++itoaE n.mn++[125])) (hp) [.b 1 2 (beq_false_of_ne h1), .b 3 2 (beq_iff_eq.2 h2), .b 3 6 (beq_false_of_ne ((show ¬n.mx = -1 from (by omega)))), .b 5 2 (beq_false_of_ne (h1)), .c 7 2 (tx_ok (m:=m) (fl:=hp.length) (hp:=hp) (n:=n.mn) hb hb2), .v 7 3 zz1, .b 10 2 (beq_iff_eq.2 (h4)), .v 13 1 zz0] (by kernel_rfl) (tlP (by kernel_rfl) rfl (shutT (v:=AV.str ([123]++itoaE n.mn++[125])) (v':=AV.str ([123]++itoaE n.mn++[125])) (by kernel_rfl))) rfl
  ·exact evX (AV.str ([123]++itoaE n.mn++[125])) (hp) [.b 1 2 (beq_false_of_ne h1), .b 3 2 (beq_false_of_ne h2), .b 5 2 (beq_false_of_ne (h1)), .c 7 2 (tx_ok (m:=m) (fl:=hp.length) (hp:=hp) (n:=n.mn) hb hb2), .v 7 3 zz1, .b 10 2 (beq_iff_eq.2 (h4)), .v 13 1 zz0] (by kernel_rfl) (tlP (by kernel_rfl) rfl (shutT (v:=AV.str ([123]++itoaE n.mn++[125])) (v':=AV.str ([123]++itoaE n.mn++[125])) (by kernel_rfl))) rfl
theorem tm_5 {m:Int} {fl:Nat} {hp:List Blk} {n:Node} {ks:AV} (h1:¬ (n.mn=0∧n.mx = -1)) (h2:¬ (n.mn=1∧n.mx = -1)) (h3:¬ (n.mn=0∧n.mx=1)) (h4:¬ n.mx=n.mn) (h5:n.mx = -1) (hb : -9223372036854775808≤n.mn) (hb2:n.mn≤9223372036854775807):evI (cfg m) fl 39 [nAV n ks] hp=some (.str ([123]++itoaE n.mn++[44]++[125]),hp):=by
 exact evX (AV.str ([123]++itoaE n.mn++[44]++[125])) (hp) [.b 1 2 (beq_false_of_ne ((show ¬n.mn=0 from (by omega)))), .b 3 2 (beq_false_of_ne ((show ¬n.mn=1 from (by omega)))), .b 5 2 (beq_false_of_ne ((show ¬n.mn=0 from (by omega)))), .c 7 2 (tx_ok (m:=m) (fl:=hp.length) (hp:=hp) (n:=n.mn) hb hb2), .v 7 3 (strOp_add (x:=[123]) (y:=itoaE n.mn) (tcat_1 (n:=n.mn))), .b 10 2 (beq_false_of_ne (h4)), .b 11 0 (beq_iff_eq.2 (h5)), .v 12 1 (strOp_add (x:=[123]++itoaE n.mn) (y:=[44]) (tcat_3 (n:=n.mn))), .v 13 1 (strOp_add (x:=[123]++itoaE n.mn++[44]) (y:=[125]) (tcat_4 (n:=n.mn)))] (by kernel_rfl) (tlP (by kernel_rfl) rfl (shutT (v:=AV.str ([123]++itoaE n.mn++[44]++[125])) (v':=AV.str ([123]++itoaE n.mn++[44]++[125])) (by kernel_rfl))) rfl
theorem tm_6 {m:Int} {fl:Nat} {hp:List Blk} {n:Node} {ks:AV} (h1:¬ (n.mn=0∧n.mx = -1)) (h2:¬ (n.mn=1∧n.mx = -1)) (h3:¬ (n.mn=0∧n.mx=1)) (h4:¬ n.mx=n.mn) (h5:¬ n.mx = -1) (hb : -9223372036854775808≤n.mn) (hb2:n.mn≤9223372036854775807) (hc : -9223372036854775808≤n.mx) (hc2:n.mx≤9223372036854775807):evI (cfg m) fl 39 [nAV n ks] hp=some (.str ([123]++itoaE n.mn++([44]++itoaE n.mx)++[125]),hp):=by
 have zz3:=strOp_add (x:=[44]) (y:=itoaE n.mx) (tcat_1 (n:=n.mx))
 have zz2:=strOp_add (x:=[123]) (y:=itoaE n.mn) (tcat_1 (n:=n.mn))
 have zz1:=strOp_add (x:=[123]++itoaE n.mn) (y:=[44]++itoaE n.mx) (tcat_6 (n:=n.mn) (k:=n.mx))
 have zz0:=strOp_add (x:=[123]++itoaE n.mn++([44]++itoaE n.mx)) (y:=[125]) (tcat_7 (n:=n.mn) (k:=n.mx))
 by_cases h1:n.mn=0
 ·exact evX (AV.str ([123]++itoaE n.mn++([44]++itoaE n.mx)++[125])) (hp) [.b 1 2 (beq_iff_eq.2 h1), .b 1 6 (beq_false_of_ne (h5)), .b 3 2 (beq_false_of_ne ((show ¬n.mn=1 from (by omega)))), .b 5 2 (beq_iff_eq.2 (h1)), .b 5 6 (beq_false_of_ne ((show ¬n.mx=1 from (by omega)))), .c 7 2 (tx_ok (m:=m) (fl:=hp.length) (hp:=hp) (n:=n.mn) hb hb2), .v 7 3 zz2, .b 10 2 (beq_false_of_ne (h4)), .b 11 0 (beq_false_of_ne (h5)), .c 9 3 (tx_ok (m:=m) (fl:=hp.length) (hp:=hp) (n:=n.mx) hc hc2), .v 9 4 zz3, .v 9 5 zz1, .v 13 1 zz0] (by kernel_rfl) (tlP (by kernel_rfl) rfl (shutT (v:=AV.str ([123]++itoaE n.mn++([44]++itoaE n.mx)++[125])) (v':=AV.str ([123]++itoaE n.mn++([44]++itoaE n.mx)++[125])) (by kernel_rfl))) rfl
 ·by_cases h2:n.mn=1
  ·exact evX (AV.str ([123]++itoaE n.mn++([44]++itoaE n.mx)++[125])) (hp) [.b 1 2 (beq_false_of_ne h1), .b 3 2 (beq_iff_eq.2 h2), .b 3 6 (beq_false_of_ne (h5)), .b 5 2 (beq_false_of_ne (h1)), .c 7 2 (tx_ok (m:=m) (fl:=hp.length) (hp:=hp) (n:=n.mn) hb hb2), .v 7 3 zz2, .b 10 2 (beq_false_of_ne (h4)), .b 11 0 (beq_false_of_ne (h5)), .c 9 3 (tx_ok (m:=m) (fl:=hp.length) (hp:=hp) (n:=n.mx) hc hc2), .v 9 4 zz3, .v 9 5 zz1, .v 13 1 zz0] (by kernel_rfl) (tlP (by kernel_rfl) rfl (shutT (v:=AV.str ([123]++itoaE n.mn++([44]++itoaE n.mx)++[125])) (v':=AV.str ([123]++itoaE n.mn++([44]++itoaE n.mx)++[125])) (by kernel_rfl))) rfl
  ·exact evX (AV.str ([123]++itoaE n.mn++([44]++itoaE n.mx)++[125])) (hp) [.b 1 2 (beq_false_of_ne h1), .b 3 2 (beq_false_of_ne h2), .b 5 2 (beq_false_of_ne (h1)), .c 7 2 (tx_ok (m:=m) (fl:=hp.length) (hp:=hp) (n:=n.mn) hb hb2), .v 7 3 zz2, .b 10 2 (beq_false_of_ne (h4)), .b 11 0 (beq_false_of_ne (h5)), .c 9 3 (tx_ok (m:=m) (fl:=hp.length) (hp:=hp) (n:=n.mx) hc hc2), .v 9 4 zz3, .v 9 5 zz1, .v 13 1 zz0] (by kernel_rfl) (tlP (by kernel_rfl) rfl (shutT (v:=AV.str ([123]++itoaE n.mn++([44]++itoaE n.mx)++[125])) (v':=AV.str ([123]++itoaE n.mn++([44]++itoaE n.mx)++[125])) (by kernel_rfl))) rfl
theorem xco_1 {m:Int} {fl:Nat} {hp:List Blk} {k:Int} (h:k=5):evI (cfg m) fl 66 [.lit 1 .exact [.int .i64 5], .int .i64 k] hp=some (.int .i64 (0),hp):=by
 exact evX (AI 0) (hp) [.l 2 (show LoopI (cfg m) (hp.length) 66 (bodyAt (cfg m) 66 2) 2 (St.mk ([TV.v (AV.lit 1 Own.exact [AI 5]),TV.v (AI k),J,J,J,J,J,TV.v (AI 1),TV.v (AI 0)]++Jn 10) hp) .ret (St.mk ([J,J,J,J,TV.v (AI 0)]++Jn 14) hp) from (loopEndC .ret (St.mk ([J,J,J,J,TV.v (AI 0)]++Jn 14) hp) [.b 4 5 (beq_iff_eq.2 (h))] (by kernel_rfl) (fun h=>by cases h) rfl))] (by kernel_rfl) (tlP (by kernel_rfl) rfl (shutT (v:=AI 0) (v':=AI 0) (by kernel_rfl))) rfl
theorem co_1 {m:Int} {fl:Nat} {hp:List Blk} {k:Int} (h:k=5):evI (cfg m) fl 52 [.lit 1 .exact [.int .i64 5], .int .i64 k] hp=some (.bool true,hp):=by
 exact evX (AV.bool true) (hp) [.c 1 2 (xco_1 (m:=m) (fl:=hp.length) (hp:=hp) (k:=k) h)] (by kernel_rfl) (tlP (by kernel_rfl) rfl (shutT (v:=AV.bool true) (v':=AV.bool true) (by kernel_rfl))) rfl
theorem xco_0 {m:Int} {fl:Nat} {hp:List Blk} {k:Int} (h:¬ k=5):evI (cfg m) fl 66 [.lit 1 .exact [.int .i64 5], .int .i64 k] hp=some (.int .i64 (-1),hp):=by
 exact evX (AI (-1)) (hp) [.l 2 (show LoopI (cfg m) (hp.length) 66 (bodyAt (cfg m) 66 2) 2 (St.mk ([TV.v (AV.lit 1 Own.exact [AI 5]),TV.v (AI k),J,J,J,J,J,TV.v (AI 1),TV.v (AI 0)]++Jn 10) hp) (.exit 0) (St.mk ([J]++Jn 18) hp) from (loopStepC (St.mk ([TV.v (AV.lit 1 Own.exact [AI 5]),TV.v (AI k),J,J,J,J,J,TV.v (AI 1),TV.v (AI 1)]++Jn 10) hp) [.b 4 5 (beq_false_of_ne (h))] (by kernel_rfl) (loopEndC (.exit 0) (St.mk ([J]++Jn 18) hp) [] (by kernel_rfl) (fun h=>by cases h) rfl) rfl))] (by kernel_rfl) (tlP (by kernel_rfl) rfl (shutT (v:=AI (-1)) (v':=AI (-1)) (by kernel_rfl))) rfl
theorem co_0 {m:Int} {fl:Nat} {hp:List Blk} {k:Int} (h:¬ k=5):evI (cfg m) fl 52 [.lit 1 .exact [.int .i64 5], .int .i64 k] hp=some (.bool false,hp):=by
 exact evX (AV.bool false) (hp) [.c 1 2 (xco_0 (m:=m) (fl:=hp.length) (hp:=hp) (k:=k) h)] (by kernel_rfl) (tlP (by kernel_rfl) rfl (shutT (v:=AV.bool false) (v':=AV.bool false) (by kernel_rfl))) rfl
theorem xcr_0 {m:Int} {fl:Nat} {hp:List Blk} {k:Int} (h0:¬ k=0) (h4:¬ k=4) (h5:¬ k=5) (h6:¬ k=6):evI (cfg m) fl 66 [.lit 1 .exact [.int .i64 0, .int .i64 4, .int .i64 5, .int .i64 6], .int .i64 k] hp=some (.int .i64 (-1),hp):=by
 exact evX (AI (-1)) (hp) [.l 2 (show LoopI (cfg m) (hp.length) 66 (bodyAt (cfg m) 66 2) 2 (St.mk ([TV.v (AV.lit 1 Own.exact [AI 0,AI 4,AI 5,AI 6]),TV.v (AI k),J,J,J,J,J,TV.v (AI 4),TV.v (AI 0)]++Jn 10) hp) (.exit 0) (St.mk ([J]++Jn 18) hp) from (loopStepC (St.mk ([TV.v (AV.lit 1 Own.exact [AI 0,AI 4,AI 5,AI 6]),TV.v (AI k),J,J,J,J,J,TV.v (AI 4),TV.v (AI 1)]++Jn 10) hp) [.b 4 5 (beq_false_of_ne (h0))] (by kernel_rfl) (loopStepC (St.mk ([TV.v (AV.lit 1 Own.exact [AI 0,AI 4,AI 5,AI 6]),TV.v (AI k),J,J,J,J,J,TV.v (AI 4),TV.v (AI 2)]++Jn 10) hp) [.b 4 5 (beq_false_of_ne (h4))] (by kernel_rfl) (loopStepC (St.mk ([TV.v (AV.lit 1 Own.exact [AI 0,AI 4,AI 5,AI 6]),TV.v (AI k),J,J,J,J,J,TV.v (AI 4),TV.v (AI 3)]++Jn 10) hp) [.b 4 5 (beq_false_of_ne (h5))] (by kernel_rfl) (loopStepC (St.mk ([TV.v (AV.lit 1 Own.exact [AI 0,AI 4,AI 5,AI 6]),TV.v (AI k),J,J,J,J,J,TV.v (AI 4),TV.v (AI 4)]++Jn 10) hp) [.b 4 5 (beq_false_of_ne (h6))] (by kernel_rfl) (loopEndC (.exit 0) (St.mk ([J]++Jn 18) hp) [] (by kernel_rfl) (fun h=>by cases h) rfl) rfl) rfl) rfl) rfl))] (by kernel_rfl) (tlP (by kernel_rfl) rfl (shutT (v:=AI (-1)) (v':=AI (-1)) (by kernel_rfl))) rfl
theorem cr_0 {m:Int} {fl:Nat} {hp:List Blk} {k:Int} (h0:¬ k=0) (h4:¬ k=4) (h5:¬ k=5) (h6:¬ k=6):evI (cfg m) fl 52 [.lit 1 .exact [.int .i64 0, .int .i64 4, .int .i64 5, .int .i64 6], .int .i64 k] hp=some (.bool false,hp):=by
 exact evX (AV.bool false) (hp) [.c 1 2 (xcr_0 (m:=m) (fl:=hp.length) (hp:=hp) (k:=k) h0 h4 h5 h6)] (by kernel_rfl) (tlP (by kernel_rfl) rfl (shutT (v:=AV.bool false) (v':=AV.bool false) (by kernel_rfl))) rfl
theorem xcr_1 {m:Int} {fl:Nat} {hp:List Blk} {k:Int} (h:k=0):evI (cfg m) fl 66 [.lit 1 .exact [.int .i64 0, .int .i64 4, .int .i64 5, .int .i64 6], .int .i64 k] hp=some (.int .i64 (0),hp):=by
 exact evX (AI 0) (hp) [.l 2 (show LoopI (cfg m) (hp.length) 66 (bodyAt (cfg m) 66 2) 2 (St.mk ([TV.v (AV.lit 1 Own.exact [AI 0,AI 4,AI 5,AI 6]),TV.v (AI k),J,J,J,J,J,TV.v (AI 4),TV.v (AI 0)]++Jn 10) hp) .ret (St.mk ([J,J,J,J,TV.v (AI 0)]++Jn 14) hp) from (loopEndC .ret (St.mk ([J,J,J,J,TV.v (AI 0)]++Jn 14) hp) [.b 4 5 (beq_iff_eq.2 (h))] (by kernel_rfl) (fun h=>by cases h) rfl))] (by kernel_rfl) (tlP (by kernel_rfl) rfl (shutT (v:=AI 0) (v':=AI 0) (by kernel_rfl))) rfl
theorem cr_1 {m:Int} {fl:Nat} {hp:List Blk} {k:Int} (h:k=0):evI (cfg m) fl 52 [.lit 1 .exact [.int .i64 0, .int .i64 4, .int .i64 5, .int .i64 6], .int .i64 k] hp=some (.bool true,hp):=by
 exact evX (AV.bool true) (hp) [.c 1 2 (xcr_1 (m:=m) (fl:=hp.length) (hp:=hp) (k:=k) h)] (by kernel_rfl) (tlP (by kernel_rfl) rfl (shutT (v:=AV.bool true) (v':=AV.bool true) (by kernel_rfl))) rfl
theorem xcr_2 {m:Int} {fl:Nat} {hp:List Blk} {k:Int} (h:k=4):evI (cfg m) fl 66 [.lit 1 .exact [.int .i64 0, .int .i64 4, .int .i64 5, .int .i64 6], .int .i64 k] hp=some (.int .i64 (1),hp):=by
 exact evX (AI 1) (hp) [.l 2 (show LoopI (cfg m) (hp.length) 66 (bodyAt (cfg m) 66 2) 2 (St.mk ([TV.v (AV.lit 1 Own.exact [AI 0,AI 4,AI 5,AI 6]),TV.v (AI k),J,J,J,J,J,TV.v (AI 4),TV.v (AI 0)]++Jn 10) hp) .ret (St.mk ([J,J,J,J,TV.v (AI 1)]++Jn 14) hp) from (loopStepC (St.mk ([TV.v (AV.lit 1 Own.exact [AI 0,AI 4,AI 5,AI 6]),TV.v (AI k),J,J,J,J,J,TV.v (AI 4),TV.v (AI 1)]++Jn 10) hp) [.b 4 5 (beq_false_of_ne ((show ¬k=0 from (by omega))))] (by kernel_rfl) (loopEndC .ret (St.mk ([J,J,J,J,TV.v (AI 1)]++Jn 14) hp) [.b 4 5 (beq_iff_eq.2 (h))] (by kernel_rfl) (fun h=>by cases h) rfl) rfl))] (by kernel_rfl) (tlP (by kernel_rfl) rfl (shutT (v:=AI 1) (v':=AI 1) (by kernel_rfl))) rfl
theorem cr_2 {m:Int} {fl:Nat} {hp:List Blk} {k:Int} (h:k=4):evI (cfg m) fl 52 [.lit 1 .exact [.int .i64 0, .int .i64 4, .int .i64 5, .int .i64 6], .int .i64 k] hp=some (.bool true,hp):=by
 exact evX (AV.bool true) (hp) [.c 1 2 (xcr_2 (m:=m) (fl:=hp.length) (hp:=hp) (k:=k) h)] (by kernel_rfl) (tlP (by kernel_rfl) rfl (shutT (v:=AV.bool true) (v':=AV.bool true) (by kernel_rfl))) rfl
theorem xcr_3 {m:Int} {fl:Nat} {hp:List Blk} {k:Int} (h:k=5):evI (cfg m) fl 66 [.lit 1 .exact [.int .i64 0, .int .i64 4, .int .i64 5, .int .i64 6], .int .i64 k] hp=some (.int .i64 (2),hp):=by
 exact evX (AI 2) (hp) [.l 2 (show LoopI (cfg m) (hp.length) 66 (bodyAt (cfg m) 66 2) 2 (St.mk ([TV.v (AV.lit 1 Own.exact [AI 0,AI 4,AI 5,AI 6]),TV.v (AI k),J,J,J,J,J,TV.v (AI 4),TV.v (AI 0)]++Jn 10) hp) .ret (St.mk ([J,J,J,J,TV.v (AI 2)]++Jn 14) hp) from (loopStepC (St.mk ([TV.v (AV.lit 1 Own.exact [AI 0,AI 4,AI 5,AI 6]),TV.v (AI k),J,J,J,J,J,TV.v (AI 4),TV.v (AI 1)]++Jn 10) hp) [.b 4 5 (beq_false_of_ne ((show ¬k=0 from (by omega))))] (by kernel_rfl) (loopStepC (St.mk ([TV.v (AV.lit 1 Own.exact [AI 0,AI 4,AI 5,AI 6]),TV.v (AI k),J,J,J,J,J,TV.v (AI 4),TV.v (AI 2)]++Jn 10) hp) [.b 4 5 (beq_false_of_ne ((show ¬k=4 from (by omega))))] (by kernel_rfl) (loopEndC .ret (St.mk ([J,J,J,J,TV.v (AI 2)]++Jn 14) hp) [.b 4 5 (beq_iff_eq.2 (h))] (by kernel_rfl) (fun h=>by cases h) rfl) rfl) rfl))] (by kernel_rfl) (tlP (by kernel_rfl) rfl (shutT (v:=AI 2) (v':=AI 2) (by kernel_rfl))) rfl
theorem cr_3 {m:Int} {fl:Nat} {hp:List Blk} {k:Int} (h:k=5):evI (cfg m) fl 52 [.lit 1 .exact [.int .i64 0, .int .i64 4, .int .i64 5, .int .i64 6], .int .i64 k] hp=some (.bool true,hp):=by
 exact evX (AV.bool true) (hp) [.c 1 2 (xcr_3 (m:=m) (fl:=hp.length) (hp:=hp) (k:=k) h)] (by kernel_rfl) (tlP (by kernel_rfl) rfl (shutT (v:=AV.bool true) (v':=AV.bool true) (by kernel_rfl))) rfl
theorem xcr_4 {m:Int} {fl:Nat} {hp:List Blk} {k:Int} (h:k=6):evI (cfg m) fl 66 [.lit 1 .exact [.int .i64 0, .int .i64 4, .int .i64 5, .int .i64 6], .int .i64 k] hp=some (.int .i64 (3),hp):=by
 exact evX (AI 3) (hp) [.l 2 (show LoopI (cfg m) (hp.length) 66 (bodyAt (cfg m) 66 2) 2 (St.mk ([TV.v (AV.lit 1 Own.exact [AI 0,AI 4,AI 5,AI 6]),TV.v (AI k),J,J,J,J,J,TV.v (AI 4),TV.v (AI 0)]++Jn 10) hp) .ret (St.mk ([J,J,J,J,TV.v (AI 3)]++Jn 14) hp) from (loopStepC (St.mk ([TV.v (AV.lit 1 Own.exact [AI 0,AI 4,AI 5,AI 6]),TV.v (AI k),J,J,J,J,J,TV.v (AI 4),TV.v (AI 1)]++Jn 10) hp) [.b 4 5 (beq_false_of_ne ((show ¬k=0 from (by omega))))] (by kernel_rfl) (loopStepC (St.mk ([TV.v (AV.lit 1 Own.exact [AI 0,AI 4,AI 5,AI 6]),TV.v (AI k),J,J,J,J,J,TV.v (AI 4),TV.v (AI 2)]++Jn 10) hp) [.b 4 5 (beq_false_of_ne ((show ¬k=4 from (by omega))))] (by kernel_rfl) (loopStepC (St.mk ([TV.v (AV.lit 1 Own.exact [AI 0,AI 4,AI 5,AI 6]),TV.v (AI k),J,J,J,J,J,TV.v (AI 4),TV.v (AI 3)]++Jn 10) hp) [.b 4 5 (beq_false_of_ne ((show ¬k=5 from (by omega))))] (by kernel_rfl) (loopEndC .ret (St.mk ([J,J,J,J,TV.v (AI 3)]++Jn 14) hp) [.b 4 5 (beq_iff_eq.2 (h))] (by kernel_rfl) (fun h=>by cases h) rfl) rfl) rfl) rfl))] (by kernel_rfl) (tlP (by kernel_rfl) rfl (shutT (v:=AI 3) (v':=AI 3) (by kernel_rfl))) rfl
theorem cr_4 {m:Int} {fl:Nat} {hp:List Blk} {k:Int} (h:k=6):evI (cfg m) fl 52 [.lit 1 .exact [.int .i64 0, .int .i64 4, .int .i64 5, .int .i64 6], .int .i64 k] hp=some (.bool true,hp):=by
 exact evX (AV.bool true) (hp) [.c 1 2 (xcr_4 (m:=m) (fl:=hp.length) (hp:=hp) (k:=k) h)] (by kernel_rfl) (tlP (by kernel_rfl) rfl (shutT (v:=AV.bool true) (v':=AV.bool true) (by kernel_rfl))) rfl
theorem wcat_1 {t:List UInt8} (h:t.length < 1000000000):[(40:UInt8)].length + t.length≤9223372036854775807:=by simp;omega
theorem wcat_2 {t:List UInt8} (h:t.length < 1000000000):([40]++t).length + [(41:UInt8)].length≤9223372036854775807:=by simp;omega
theorem wi_1 {m:Int} {fl:Nat} {hp:List Blk} {n:Node} {ks l:AV} {t:List UInt8} (hc:∀ fl h,evI (cfg m) fl 26 [nAV n ks] h=some (.str t,h)) (hk:∀ fl h,evI (cfg m) fl 52 [l, .int .i64 n.kind] h=some (.bool true,h)) (ht:t.length < 1000000000):evI (cfg m) fl 37 [nAV n ks,l] hp=some (.str ([40]++t++[41]),hp):=by
 exact evX (AV.str ([40]++t++[41])) (hp) [.c 1 3 (hk (hp.length) (hp)), .c 2 1 (hc (hp.length) (hp)), .v 2 2 (strOp_add (x:=[40]) (y:=t) (wcat_1 ht)), .v 2 3 (strOp_add (x:=[40]++t) (y:=[41]) (wcat_2 ht))] (by kernel_rfl) (tlP (by kernel_rfl) rfl (shutT (v:=AV.str ([40]++t++[41])) (v':=AV.str ([40]++t++[41])) (by kernel_rfl))) rfl
theorem wi_0 {m:Int} {fl:Nat} {hp:List Blk} {n:Node} {ks l:AV} {t:List UInt8} (hc:∀ fl h,evI (cfg m) fl 26 [nAV n ks] h=some (.str t,h)) (hk:∀ fl h,evI (cfg m) fl 52 [l, .int .i64 n.kind] h=some (.bool false,h)):evI (cfg m) fl 37 [nAV n ks,l] hp=some (.str t,hp):=by
 exact evX (AV.str t) (hp) [.c 1 3 (hk (hp.length) (hp)), .c 3 1 (hc (hp.length) (hp))] (by kernel_rfl) (tlP (by kernel_rfl) rfl (shutT (v:=AV.str t) (v':=AV.str t) (by kernel_rfl))) rfl
abbrev stV (l:List (List UInt8)):List AV:=l.map AV.str
theorem strsOf_map (l:List (List UInt8)):strsOf (stV l)=some l:=by
 induction l with
 | nil=>rfl
 | cons x l ih=>simp only [stV,List.map_cons] at *;simp [strsOf,ih]
theorem jo_ok {m:Int} {fl:Nat} {hp:List Blk} {x:AV} {l:List (List UInt8)} {sep:List UInt8} (hx:IsSl 1 x (stV l)) (h1:l.length≤100000) (h2:(joinB sep l).length≤100000000000):evI (cfg m) fl 38 [x, .str sep] hp=some (.str (joinB sep l),hp):=by
 refine evI_of (k:=1) ?_
 have e:(cfg m).ext 38=some extJoin:=by kernel_rfl
 unfold evCall
 rw [e]
 rcases hx with ⟨rfl,hl⟩ | ⟨o,rfl⟩
 ·have:l=[]:=by simpa [stV] using hl
  subst this
  rfl
 ·simp only [extJoin,strsOf_map]
  rw [cond_true (by simp;omega)]
  rfl
theorem app_str {C:Cfg} {fl:Nat} {hp:List Blk} {x y:AV} {vs ws:List AV} {t:TypeId} (h:Gr fl 1 hp x vs) (hy:elems hp 1 y=some ws) (ht:elT C t 1 16=true) (hw:ws≠[]) (hl:(vs.length + ws.length) * 16≤35184372088832) (hf:fl≤hp.length) :
  ∃ x' hp',(∀ ts,builtinE C fl false ⟨ts,hp⟩ .append [t,t] [x,y]=some ⟨.v x',ts,hp',bif isArr y then .hw else .fw⟩)∧Gr fl 1 hp' x' (vs++ws)∧FrC [] hp hp':=append_gr h hy ht hw hl hf
theorem sl_one {m:Int} {hp:List Blk} {o:Own} {v:AV}:∃ ks',(∀ ts,sliceE (cfg m) ⟨ts,hp⟩ 41 (.v (.lit 8 o [v])) none (some (.int .i64 (bif false then bif decide ((([v].length:Nat):Int) < 1) then 1 else (([v].length:Nat):Int) else bif decide (1 < (([v].length:Nat):Int)) then 1 else (([v].length:Nat):Int)))) none=some ks')∧IsSl 8 ks' [v]:=by
 cases o with
 | «sealed» => exact ⟨.lit 8 .sealed [v],fun ts=>rfl, .lit _ _ _⟩
 | exact=>exact ⟨.lit 8 .exact [v],fun ts=>rfl, .lit _ _ _⟩
 | fam g s=>exact ⟨.lit 8 (.fam g (s + 0)) [v],fun ts=>rfl, .lit _ _ _⟩
abbrev pcSt (ks o:AV) (nv i:Nat):List TV:=[J,J,J, .v o]++List.replicate 20 J++[.v ks, .v (AI nv), .v (AI i)]++List.replicate 55 J
abbrev paSt (ks o:AV) (nv i:Nat):List TV:=[J,J,J, .v o]++List.replicate 38 J++[.v ks, .v (AI nv), .v (AI i)]++List.replicate 37 J
abbrev poEnd (o:AV):List TV:=[J,J,J, .v o]++List.replicate 78 J
theorem pc_i {m:Int} {fl nv i:Nat} {hp:List Blk} {q:Node} {ks kq o:AV} {vs:List AV} {ts:List (List UInt8)} {t:List UInt8} (hk:IsSl 8 ks vs) (hv:vs[i]?=some (nAV q kq)) (hi:i < nv) (hnv:nv < 100000) (ho:Gr fl 1 hp o (stV ts)) (hl:((stV ts).length + [AV.str t].length) * 16≤35184372088832) (hf:fl≤hp.length) (hc:∀ fl h,evI (cfg m) fl 37 [nAV q kq, .lit 1 .exact [.int .i64 5]] h=some (.str t,h)):∃ hp' o',LoopS (cfg m) fl 26 (bodyAt (cfg m) 26 11) 11 ⟨pcSt ks o nv i,hp⟩ ⟨pcSt ks o' nv (i + 1),hp'⟩∧Gr fl 1 hp' o' (stV ts++[.str t])∧FrC [] hp hp':=by
 obtain ⟨x'1,hp'2,e3,h4,h5⟩:=(app_str (C:=cfg m) (y:=AV.lit 1 Own.exact [AV.str t]) (t:=45) ho (by kernel_rfl) (by kernel_rfl) (by simp_all;done) hl hf)
 exact ⟨hp'2,_,loopStepS (St.mk [J,J,J,TV.v x'1,J,J,J,J,J,J,J,J,J,J,J,J,J,J,J,J,J,J,J,J,TV.v ks,TV.v (AI nv),TV.v (AI ((↑i:Int) + 1)),J,J,J,J,J,J,J,J,J,J,J,J,J,J,J,J,J,J,J,J,J,J,J,J,J,J,J,J,J,J,J,J,J,J,J,J,J,J,J,J,J,J,J,J,J,J,J,J,J,J,J,J,J,J,J] hp'2) [.b 11 0 (decide_eq_true ((show (↑i:Int) < (↑nv:Int) from (by omega)))), .a 12 0 (indexAddr_sl (C:=cfg m) (t:=41) (n:=(↑i:Int)) hk (by kernel_rfl) (by omega) hv), .c 13 3 (hc (fl) (hp)), .m 13 5 e3, .w 14 0 IntKind.i64 ((↑i:Int) + 1) (wrap_i64' (by omega))] (by kernel_rfl) rfl,by assumption,by assumption⟩
theorem pc_x {m:Int} {fl nv i:Nat} {hp:List Blk} {ks o:AV} (hi:nv≤i):LoopI (cfg m) fl 26 (bodyAt (cfg m) 26 11) 11 ⟨pcSt ks o nv i,hp⟩ (.exit 1) ⟨poEnd o,hp⟩:=by
 exact loopEndC (.exit 1) (St.mk ([J,J,J,TV.v o]++Jn 78) hp) [.b 11 0 (decide_eq_false ((show ¬(↑i:Int) < (↑nv:Int) from (by omega))))] (by kernel_rfl) (fun h=>by cases h) rfl
theorem pa_i {m:Int} {fl nv i:Nat} {hp:List Blk} {q:Node} {ks kq o:AV} {vs:List AV} {ts:List (List UInt8)} {t:List UInt8} (hk:IsSl 8 ks vs) (hv:vs[i]?=some (nAV q kq)) (hi:i < nv) (hnv:nv < 100000) (ho:Gr fl 1 hp o (stV ts)) (hl:((stV ts).length + [AV.str t].length) * 16≤35184372088832) (hf:fl≤hp.length) (hc:∀ fl h,evI (cfg m) fl 26 [nAV q kq] h=some (.str t,h)):∃ hp' o',LoopS (cfg m) fl 26 (bodyAt (cfg m) 26 18) 18 ⟨paSt ks o nv i,hp⟩ ⟨paSt ks o' nv (i + 1),hp'⟩∧Gr fl 1 hp' o' (stV ts++[.str t])∧FrC [] hp hp':=by
 obtain ⟨x'1,hp'2,e3,h4,h5⟩:=(app_str (C:=cfg m) (y:=AV.lit 1 Own.exact [AV.str t]) (t:=45) ho (by kernel_rfl) (by kernel_rfl) (by simp_all;done) hl hf)
 exact ⟨hp'2,_,loopStepS (St.mk [J,J,J,TV.v x'1,J,J,J,J,J,J,J,J,J,J,J,J,J,J,J,J,J,J,J,J,J,J,J,J,J,J,J,J,J,J,J,J,J,J,J,J,J,J,TV.v ks,TV.v (AI nv),TV.v (AI ((↑i:Int) + 1)),J,J,J,J,J,J,J,J,J,J,J,J,J,J,J,J,J,J,J,J,J,J,J,J,J,J,J,J,J,J,J,J,J,J,J,J,J] hp'2) [.b 18 0 (decide_eq_true ((show (↑i:Int) < (↑nv:Int) from (by omega)))), .a 19 0 (indexAddr_sl (C:=cfg m) (t:=41) (n:=(↑i:Int)) hk (by kernel_rfl) (by omega) hv), .c 20 2 (hc (fl) (hp)), .m 20 4 e3, .w 21 0 IntKind.i64 ((↑i:Int) + 1) (wrap_i64' (by omega))] (by kernel_rfl) rfl,by assumption,by assumption⟩
theorem pa_x {m:Int} {fl nv i:Nat} {hp:List Blk} {ks o:AV} (hi:nv≤i):LoopI (cfg m) fl 26 (bodyAt (cfg m) 26 18) 18 ⟨paSt ks o nv i,hp⟩ (.exit 3) ⟨poEnd o,hp⟩:=by
 exact loopEndC (.exit 3) (St.mk ([J,J,J,TV.v o]++Jn 78) hp) [.b 18 0 (decide_eq_false ((show ¬(↑i:Int) < (↑nv:Int) from (by omega))))] (by kernel_rfl) (fun h=>by cases h) rfl
theorem pt_1 {m:Int} {fl:Nat} {hp:List Blk} {n:Node} {ks:AV} {t:List UInt8} (h:n.kind=1) (hc:∀ fl h,evI (cfg m) fl 36 [.agg [wAV n.set.a,wAV n.set.b,wAV n.set.c,wAV n.set.d]] h=some (.str t,h)):evI (cfg m) fl 26 [nAV n ks] hp=some (.str t,hp):=by
 exact evX (AV.str t) (hp) [.b 3 0 (beq_iff_eq.2 (h)), .c 4 2 (hc (hp.length) (hp))] (by kernel_rfl) (tlP (by kernel_rfl) rfl (shutT (v:=AV.str t) (v':=AV.str t) (by kernel_rfl))) rfl
theorem pt_2 {m:Int} {fl:Nat} {hp:List Blk} {n:Node} {ks:AV} (h:n.kind=2):evI (cfg m) fl 26 [nAV n ks] hp=some (.str [94],hp):=by
 exact evX (AV.str [94]) (hp) [.b 3 0 (beq_false_of_ne ((show ¬n.kind=1 from (by omega)))), .b 5 0 (beq_iff_eq.2 (h))] (by kernel_rfl) (tlP (by kernel_rfl) rfl (shutT (v:=AV.str [94]) (v':=AV.str [94]) (by kernel_rfl))) rfl
theorem pt_3 {m:Int} {fl:Nat} {hp:List Blk} {n:Node} {ks:AV} (h:n.kind=3):evI (cfg m) fl 26 [nAV n ks] hp=some (.str [36],hp):=by
 exact evX (AV.str [36]) (hp) [.b 3 0 (beq_false_of_ne ((show ¬n.kind=1 from (by omega)))), .b 5 0 (beq_false_of_ne ((show ¬n.kind=2 from (by omega)))), .b 7 0 (beq_iff_eq.2 (h))] (by kernel_rfl) (tlP (by kernel_rfl) rfl (shutT (v:=AV.str [36]) (v':=AV.str [36]) (by kernel_rfl))) rfl
theorem pt_o {m:Int} {fl:Nat} {hp:List Blk} {n:Node} {ks:AV} (h1:¬ n.kind=1) (h2:¬ n.kind=2) (h3:¬ n.kind=3) (h4:¬ n.kind=4) (h5:¬ n.kind=5) (h6:¬ n.kind=6):evI (cfg m) fl 26 [nAV n ks] hp=some (.str [],hp):=by
 exact evX (AV.str []) (hp) [.b 3 0 (beq_false_of_ne (h1)), .b 5 0 (beq_false_of_ne (h2)), .b 7 0 (beq_false_of_ne (h3)), .b 9 0 (beq_false_of_ne (h4)), .b 16 0 (beq_false_of_ne (h5)), .b 23 0 (beq_false_of_ne (h6))] (by kernel_rfl) (tlP (by kernel_rfl) rfl (shutT (v:=AV.str []) (v':=AV.str []) (by kernel_rfl))) rfl
theorem pt_4 {m:Int} {fl:Nat} {hp hp':List Blk} {n:Node} {ks o:AV} {vs:List AV} {ts:List (List UInt8)} (hk:IsSl 8 ks vs) (h:n.kind=4) (hnv:vs.length < 100000) (hlp:LoopI (cfg m) hp.length 26 (bodyAt (cfg m) 26 11) 11 ⟨pcSt ks .nilS vs.length 0,hp⟩ (.exit 1) ⟨poEnd o,hp'⟩) (ho:IsSl 1 o (stV ts)) (h1:ts.length≤100000) (h2:(joinB [] ts).length≤100000000000):evI (cfg m) fl 26 [nAV n ks] hp=some (.str (joinB [] ts),hp):=by
 exact evX (AV.str (joinB [] ts)) (hp') [.b 3 0 (beq_false_of_ne ((show ¬n.kind=1 from (by omega)))), .b 5 0 (beq_false_of_ne ((show ¬n.kind=2 from (by omega)))), .b 7 0 (beq_false_of_ne ((show ¬n.kind=3 from (by omega)))), .b 9 0 (beq_iff_eq.2 (h)), .m 10 2 (len_sl (C:=cfg m) (t:=41) (ts':=[]) (fl:=hp.length) (ar:=false) (hp:=hp) hk (by kernel_rfl)), .l 11 hlp, .c 15 1 (jo_ok (m:=m) (fl:=hp.length) (hp:=hp') ho h1 h2)] (by kernel_rfl) (tlP (by kernel_rfl) rfl (shutT (v:=AV.str (joinB [] ts)) (v':=AV.str (joinB [] ts)) (by kernel_rfl))) rfl
theorem pt_5 {m:Int} {fl:Nat} {hp hp':List Blk} {n:Node} {ks o:AV} {vs:List AV} {ts:List (List UInt8)} (hk:IsSl 8 ks vs) (h:n.kind=5) (hnv:vs.length < 100000) (hlp:LoopI (cfg m) hp.length 26 (bodyAt (cfg m) 26 18) 18 ⟨paSt ks .nilS vs.length 0,hp⟩ (.exit 3) ⟨poEnd o,hp'⟩) (ho:IsSl 1 o (stV ts)) (h1:ts.length≤100000) (h2:(joinB [124] ts).length≤100000000000):evI (cfg m) fl 26 [nAV n ks] hp=some (.str (joinB [124] ts),hp):=by
 exact evX (AV.str (joinB [124] ts)) (hp') [.b 3 0 (beq_false_of_ne ((show ¬n.kind=1 from (by omega)))), .b 5 0 (beq_false_of_ne ((show ¬n.kind=2 from (by omega)))), .b 7 0 (beq_false_of_ne ((show ¬n.kind=3 from (by omega)))), .b 9 0 (beq_false_of_ne ((show ¬n.kind=4 from (by omega)))), .b 16 0 (beq_iff_eq.2 (h)), .m 17 2 (len_sl (C:=cfg m) (t:=41) (ts':=[]) (fl:=hp.length) (ar:=false) (hp:=hp) hk (by kernel_rfl)), .l 18 hlp, .c 22 1 (jo_ok (m:=m) (fl:=hp.length) (hp:=hp') ho h1 h2)] (by kernel_rfl) (tlP (by kernel_rfl) rfl (shutT (v:=AV.str (joinB [124] ts)) (v':=AV.str (joinB [124] ts)) (by kernel_rfl))) rfl
theorem pcat {t u:List UInt8} (h:t.length < 1000000000) (h2:u.length < 1000000000):t.length + u.length≤9223372036854775807:=by omega
theorem jo_1 {m:Int} {fl:Nat} {hp:List Blk} {o:Own} {t:List UInt8} (h:t.length < 1000000000):evI (cfg m) fl 38 [.lit 1 o [.str t], .str []] hp=some (.str t,hp):=jo_ok (l:=[t]) (.lit _ _ _) (by simp) (show t.length≤100000000000 by omega)
abbrev q0_pt_6 (q:Node) (kq:AV):List AV:=[AI q.kind,AW q.set.a.toNat,AW q.set.b.toNat,AW q.set.c.toNat,AW q.set.d.toNat,AI q.mn,AI q.mx,kq]
abbrev q1_pt_6 (t:List UInt8):List Blk:=[Blk.fam (([]:List AV).length + [AV.str t].length)]
theorem pt_6 {m:Int} {fl:Nat} {hp:List Blk} {n q:Node} {kq:AV} {o:Own} {t u:List UInt8} (h:n.kind=6) (hc:∀ fl h,evI (cfg m) fl 37 [nAV q kq, .lit 1 .exact [.int .i64 0, .int .i64 4, .int .i64 5, .int .i64 6]] h=some (.str t,h)) (ht:∀ fl h,evI (cfg m) fl 39 [nAV n (.lit 8 o [nAV q kq])] h=some (.str u,h)) (h1:t.length < 1000000000) (h2:u.length < 1000000000):evI (cfg m) fl 26 [nAV n (.lit 8 o [nAV q kq])] hp=some (.str (t++u),hp):=by
 obtain ⟨ks'1,e2,h3⟩:=(sl_one (m:=m) (hp:=hp) (o:=o) (v:=AV.agg (q0_pt_6 q kq)))
 exact evX (AV.str (t++u)) (hp++(q1_pt_6 t)) [.b 3 0 (beq_false_of_ne ((show ¬n.kind=1 from (by omega)))), .b 5 0 (beq_false_of_ne ((show ¬n.kind=2 from (by omega)))), .b 7 0 (beq_false_of_ne ((show ¬n.kind=3 from (by omega)))), .b 9 0 (beq_false_of_ne ((show ¬n.kind=4 from (by omega)))), .b 16 0 (beq_false_of_ne ((show ¬n.kind=5 from (by omega)))), .b 23 0 (beq_iff_eq.2 (h)), .s 24 6 (hp) Fp.z e2, .m 24 7 (len_sl (C:=cfg m) (t:=41) (ts':=[]) (fl:=hp.length) (ar:=false) (hp:=hp) h3 (by kernel_rfl)), .l 25 (show LoopI (cfg m) (hp.length) 26 (bodyAt (cfg m) 26 25) 25 (St.mk [J,TV.bx [AI n.kind,AW n.set.a.toNat,AW n.set.b.toNat,AW n.set.c.toNat,AW n.set.d.toNat,AI n.mn,AI n.mx,AV.lit 8 o [AV.agg (q0_pt_6 q kq)]],J,TV.v AV.nilS,J,J,J,J,J,J,J,J,J,J,J,J,J,J,J,J,J,J,J,J,J,J,J,J,J,J,J,J,J,J,J,J,J,J,J,J,J,J,J,J,J,J,J,J,J,J,J,J,J,J,J,J,J,J,J,J,J,J,J,J,TV.v ks'1,TV.v (AI (↑[AV.agg (q0_pt_6 q kq)].length:Int)),TV.v (AI 0),J,J,J,J,J,J,J,J,J,J,J,J,J,J,J] hp) (.exit 5) (St.mk [J,TV.bx [AI n.kind,AW n.set.a.toNat,AW n.set.b.toNat,AW n.set.c.toNat,AW n.set.d.toNat,AI n.mn,AI n.mx,AV.lit 8 o [AV.agg (q0_pt_6 q kq)]],J,TV.v (AV.lit 1 (Own.fam hp.length 0) [AV.str t]),J,J,J,J,J,J,J,J,J,J,J,J,J,J,J,J,J,J,J,J,J,J,J,J,J,J,J,J,J,J,J,J,J,J,J,J,J,J,J,J,J,J,J,J,J,J,J,J,J,J,J,J,J,J,J,J,J,J,J,J,J,J,J,J,J,J,J,J,J,J,J,J,J,J,J,J,J,J] (hp++(q1_pt_6 t))) from (loopStepC (St.mk [J,TV.bx [AI n.kind,AW n.set.a.toNat,AW n.set.b.toNat,AW n.set.c.toNat,AW n.set.d.toNat,AI n.mn,AI n.mx,AV.lit 8 o [AV.agg (q0_pt_6 q kq)]],J,TV.v (AV.lit 1 (Own.fam hp.length 0) [AV.str t]),J,J,J,J,J,J,J,J,J,J,J,J,J,J,J,J,J,J,J,J,J,J,J,J,J,J,J,J,J,J,J,J,J,J,J,J,J,J,J,J,J,J,J,J,J,J,J,J,J,J,J,J,J,J,J,J,J,J,J,J,TV.v ks'1,TV.v (AI (↑[AV.agg (q0_pt_6 q kq)].length:Int)),TV.v (AI 1),J,J,J,J,J,J,J,J,J,J,J,J,J,J,J] (hp++(q1_pt_6 t))) [.b 25 0 (decide_eq_true ((show 0 < (↑[AV.agg (q0_pt_6 q kq)].length:Int) from (by simp only [setAt_length,List.length_append,List.length_cons,List.length_nil,List.length_map] at *;omega)))), .a 26 0 (indexAddr_sl (C:=cfg m) (t:=41) (n:=0) (v:=AV.agg (q0_pt_6 q kq)) h3 (by kernel_rfl) (by omega) (by kernel_rfl)), .c 27 3 (hc (hp.length) (hp))] (by kernel_rfl) (loopEndC (.exit 5) (St.mk [J,TV.bx [AI n.kind,AW n.set.a.toNat,AW n.set.b.toNat,AW n.set.c.toNat,AW n.set.d.toNat,AI n.mn,AI n.mx,AV.lit 8 o [AV.agg (q0_pt_6 q kq)]],J,TV.v (AV.lit 1 (Own.fam hp.length 0) [AV.str t]),J,J,J,J,J,J,J,J,J,J,J,J,J,J,J,J,J,J,J,J,J,J,J,J,J,J,J,J,J,J,J,J,J,J,J,J,J,J,J,J,J,J,J,J,J,J,J,J,J,J,J,J,J,J,J,J,J,J,J,J,J,J,J,J,J,J,J,J,J,J,J,J,J,J,J,J,J,J] (hp++(q1_pt_6 t))) [.b 25 0 (decide_eq_false ((show ¬1 < (↑[AV.agg (q0_pt_6 q kq)].length:Int) from (by simp only [setAt_length,List.length_append,List.length_cons,List.length_nil,List.length_map] at *;omega))))] (by kernel_rfl) (fun h=>by cases h) rfl) rfl)), .c 29 1 (jo_1 (m:=m) (fl:=hp.length) (hp:=hp++(q1_pt_6 t)) (o:=Own.fam hp.length 0) h1), .c 29 3 (ht (hp.length) (hp++(q1_pt_6 t))), .v 29 4 (strOp_add (x:=t) (y:=u) (pcat h1 h2))] (by kernel_rfl) (tlP (by kernel_rfl) rfl (shutT (v:=AV.str (t++u)) (v':=AV.str (t++u)) (by kernel_rfl))) rfl
end Go.Proofs.YtanopbolgfcojaaGreatDoor.E.SZ
namespace Go.Proofs.YtanopbolgfcojaaGreatDoor.E.SZ
open Go Go.Proofs E E.R
def putS (s:W4):List UInt8 :=
 if s=dotS then [46]
 else if ((W4.cntTo s 256:Nat):Int)=1 then escT (UInt8.ofNat ((runsF s 256 0).headD (0,0)).1) spS
 else [91]++clsT (runsF s 256 0)++[93]
theorem clsT_len:∀ {l:List (Nat × Nat)},(clsT l).length≤5 * l.length
 | []=>by simp [clsT]
 | r::l=>by
  have h1:=clsT_len (l:=l)
  have h2:=es_len (b:=UInt8.ofNat r.1) (l:=icS)
  have h3:=es_len (b:=UInt8.ofNat r.2) (l:=icS)
  simp only [clsT,List.length_append,List.length_cons]
  split
  ·simp only [List.length_cons];omega
  ·simp only [List.length_nil];omega
theorem runsF_len {s:W4}:∀ (f k:Nat),(runsF s f k).length≤f
 | 0,_=>by simp [runsF]
 | f + 1,k=>by
  unfold runsF
  split
  ·split
   ·have:=runsF_len (s:=s) f (runEnd s 256 k + 1);simp;omega
   ·have:=runsF_len (s:=s) f (k + 1);omega
  ·simp
theorem putS_len {s:W4}:(putS s).length≤1300:=by
 unfold putS
 split
 ·simp
 ·split
  ·have:=es_len (b:=UInt8.ofNat ((runsF s 256 0).headD (0,0)).1) (l:=spS);omega
  ·have h1:=clsT_len (l:=runsF s 256 0)
   have h2:=runsF_len (s:=s) 256 0
   simp;omega
theorem putS_ok {m:Int} {fl:Nat} {s:W4} {hp:List Blk}:evI (cfg m) fl 36 [.agg [wAV s.a,wAV s.b,wAV s.c,wAV s.d]] hp=some (.str (putS s),hp):=by
 unfold putS
 by_cases h0:s=dotS
 ·rw [if_pos h0];exact put_dot h0
 rw [if_neg h0]
 obtain ⟨o,hr0,ho⟩:=runs_ok (m:=m) (fl:=hp.length) (s:=s) (hp:=hp)
 have hbd:=fun r hr=>runsF_bd (s:=s) 256 0 r hr
 have hlen:=runsF_len (s:=s) 256 0
 by_cases h1:((W4.cntTo s 256:Nat):Int)=1
 ·rw [if_pos h1]
  obtain ⟨j,hj,hh⟩:=cnt_pos (s:=s) 256 (by omega)
  have hne:=runsF_ne (s:=s) 256 0 j (by omega) hj hh (by omega)
  cases hr:runsF s 256 0 with
  | nil=>exact absurd hr hne
  | cons r l =>
   rw [hr] at ho
   exact put_1 (lo:=r.1) (hi:=r.2) h0 h1 hr0 ho rfl (hbd r (by rw [hr];simp)).1
 ·rw [if_neg h1]
  have hL:∀ (rs:List (Nat × Nat)) (i:Nat) (t:List UInt8),(runsF s 256 0).drop i=rs→t.length + 5 * rs.length < 10000→LoopI (cfg m) hp.length 36 (bodyAt (cfg m) 36 8) 8 ⟨spSt o t ((runsF s 256 0).map rAV).length i,hp⟩ (.exit 1) ⟨spEnd (t++clsT rs),hp⟩:=by
   intro rs
   induction rs with
   | nil =>
    intro i t hd ht
    have:(runsF s 256 0).length≤i:=by simpa using hd
    rw [clsT,List.append_nil]
    exact sp_x (by simpa using this)
   | cons r rs ih =>
    intro i t hd ht
    have hq:(runsF s 256 0)[i]?=some r:=by have:=congrArg (·[0]?) hd;simpa using this
    have hi:i < (runsF s 256 0).length:=(List.getElem?_eq_some_iff.1 hq).1
    have hd':(runsF s 256 0).drop (i + 1)=rs:=by rw [← List.drop_drop,hd];rfl
    have hv:((runsF s 256 0).map rAV)[i]?=some (rAV r):=by rw [List.getElem?_map,hq];rfl
    have hb:=hbd r (List.mem_of_getElem? hq)
    have e1:=es_len (b:=UInt8.ofNat r.1) (l:=icS)
    have e2:=es_len (b:=UInt8.ofNat r.2) (l:=icS)
    simp only [List.length_cons] at ht
    by_cases hab:r.1 < r.2
    ·have:=sp_1 (fl:=hp.length) (hp:=hp) (m:=m) (t:=t) (nv:=((runsF s 256 0).map rAV).length) ho hv (by simpa using hi) (by simp;omega) (by omega) hb.1 hb.2 hab
     have h2:=ih (i + 1) (t++escT (UInt8.ofNat r.1) icS++([45]++escT (UInt8.ofNat r.2) icS)) hd' (by simp;omega)
     have h3:=this _ _ h2
     rw [clsT,if_pos hab]
     simpa using h3
    ·have:=sp_0 (fl:=hp.length) (hp:=hp) (m:=m) (t:=t) (nv:=((runsF s 256 0).map rAV).length) ho hv (by simpa using hi) (by simp;omega) (by omega) hb.1 hb.2 hab
     have h2:=ih (i + 1) (t++escT (UInt8.ofNat r.1) icS) hd' (by simp;omega)
     have h3:=this _ _ h2
     rw [clsT,if_neg hab]
     simpa using h3
  have hl:=hL (runsF s 256 0) 0 [91] rfl (by simp;omega)
  have hc:=clsT_len (l:=runsF s 256 0)
  exact put_n h0 h1 hr0 ho hl (by simp;omega)
def timesT (lo hi:Int):List UInt8 :=
 if lo=0∧hi = -1 then [42] else if lo=1∧hi = -1 then [43] else if lo=0∧hi=1 then [63]
 else if hi=lo then [123]++itoaE lo++[125]
 else if hi = -1 then [123]++itoaE lo++[44]++[125]
 else [123]++itoaE lo++([44]++itoaE hi)++[125]
theorem timesT_len {lo hi:Int}:(timesT lo hi).length≤50:=by
 have h1:=itoa_len (n:=lo)
 have h2:=itoa_len (n:=hi)
 unfold timesT
 repeat' split
 all_goals simp
 all_goals omega
theorem times_ok {m:Int} {fl:Nat} {hp:List Blk} {n:Node} {ks:AV} (hb : -9223372036854775808≤n.mn∧n.mn≤9223372036854775807) (hc : -9223372036854775808≤n.mx∧n.mx≤9223372036854775807):evI (cfg m) fl 39 [nAV n ks] hp=some (.str (timesT n.mn n.mx),hp):=by
 unfold timesT
 by_cases h1:n.mn=0∧n.mx = -1
 ·rw [if_pos h1];exact tm_1 h1.1 h1.2
 rw [if_neg h1]
 by_cases h2:n.mn=1∧n.mx = -1
 ·rw [if_pos h2];exact tm_2 h2.1 h2.2
 rw [if_neg h2]
 by_cases h3:n.mn=0∧n.mx=1
 ·rw [if_pos h3];exact tm_3 h3.1 h3.2
 rw [if_neg h3]
 by_cases h4:n.mx=n.mn
 ·rw [if_pos h4];exact tm_4 h1 h2 h3 h4 hb.1 hb.2
 rw [if_neg h4]
 by_cases h5:n.mx = -1
 ·rw [if_pos h5];exact tm_5 h1 h2 h3 h4 h5 hb.1 hb.2
 ·rw [if_neg h5];exact tm_6 h1 h2 h3 h4 h5 hb.1 hb.2 hc.1 hc.2
def brk (t:List UInt8):List UInt8:=[40]++t++[41]
def inCat (x:Int × List UInt8):List UInt8:=if x.1=5 then brk x.2 else x.2
def inRep (x:Int × List UInt8):List UInt8:=if x.1=0∨x.1=4∨x.1=5∨x.1=6 then brk x.2 else x.2
def putV (k:Int) (s:W4) (mn mx:Int) (l:List (Int × List UInt8)):List UInt8 :=
 if k=1 then putS s else if k=2 then [94] else if k=3 then [36]
 else if k=4 then joinB [] (l.map inCat)
 else if k=5 then joinB [124] (l.map (·.2))
 else if k=6 then inRep (l.headD (0,[]))++timesT mn mx
 else []
end Go.Proofs.YtanopbolgfcojaaGreatDoor.E.SZ
namespace Go.Proofs.YtanopbolgfcojaaGreatDoor.E
open E.SZ
mutual
def Node.put:Node→List UInt8
 | .mk k s a b l=>putV k s a b (puts l)
def puts:List Node→List (Int × List UInt8)
 | []=>[]
 | n::l=>(n.kind,n.put)::puts l
end
end Go.Proofs.YtanopbolgfcojaaGreatDoor.E
namespace Go.Proofs.YtanopbolgfcojaaGreatDoor.E.SZ
open Go Go.Proofs E E.R
theorem puts_map:∀ {l:List Node},puts l=l.map fun n=>(n.kind,n.put)
 | []=>by simp [puts]
 | n::l=>by simp [puts,puts_map (l:=l)]
theorem put_eq (n:Node):n.put=putV n.kind n.set n.mn n.mx (n.kids.map fun n=>(n.kind,n.put)):=by
 cases n with | mk k s a b l=>simp only [Node.put,puts_map,Node.kind,Node.set,Node.mn,Node.mx,Node.kids]
def Fine:Nat→Node→Prop
 | 0,_=>False
 | d + 1,n=>(n.kind=6→n.kids.length=1)∧(-9223372036854775808≤n.mn∧n.mn≤9223372036854775807)∧(-9223372036854775808≤n.mx∧n.mx≤9223372036854775807)∧∀ k ∈ n.kids,Fine d k
theorem joinB_len {sep:List UInt8} {c:Nat} (hs:sep.length≤c):∀ {l:List (List UInt8)},(joinB sep l).length≤(l.map fun t=>t.length + c).sum
 | []=>by simp [joinB]
 | [x]=>by simp [joinB]
 | x::y::l=>by
  have:=joinB_len hs (l:=y::l)
  simp only [joinB,List.length_append,List.map_cons,List.sum_cons] at *
  omega
theorem brk_len {t:List UInt8}:(brk t).length=t.length + 2:=by simp [brk]
theorem sum_lw {b:Nat} {f:Node→Nat}:∀ {l:List Node},(∀ q ∈ l,f q≤q.lw * b)→(l.map f).sum≤lws l * b
 | [],_=>by simp [lws]
 | n::l,h=>by
  have h1:=h n (by simp)
  have h2:=sum_lw (b:=b) (f:=f) (l:=l) fun q hq=>h q (by simp [hq])
  simp only [List.map_cons,List.sum_cons,lws,Nat.add_mul]
  omega
theorem put_len:∀ (d:Nat) (n:Node),Fine d n→n.put.length≤n.lw * (1400 * d)
 | 0,_,h=>h.elim
 | d + 1,n,h=>by
  have ih:=fun q hq=>put_len d q (h.2.2.2 q hq)
  have hlw:=n.lw_eq
  have hpos:=lw_pos n
  have hbig:1400 * (d + 1)≤n.lw * (1400 * (d + 1)):=Nat.le_mul_of_pos_left _ hpos
  have hmono:∀ b,b≤1400 * (d + 1)→lws n.kids * b≤n.lw * (1400 * (d + 1)):=fun b hb=>Nat.mul_le_mul (by omega) hb
  rw [put_eq]
  unfold putV
  split
  ·have:=putS_len (s:=n.set);omega
  split
  ·simp;omega
  split
  ·simp;omega
  split
  ·refine Nat.le_trans (joinB_len (c:=0) (by simp)) ?_
   simp only [List.map_map]
   refine Nat.le_trans (sum_lw (b:=1400 * d + 2) fun q hq => ?_) (hmono _ (by omega))
   have h1:=ih q hq
   have h2:=lw_pos q
   have h3:q.lw * (1400 * d) + 2≤q.lw * (1400 * d + 2):=by rw [Nat.mul_add];omega
   simp only [Function.comp,inCat]
   split
   ·rw [brk_len];omega
   ·omega
  split
  ·refine Nat.le_trans (joinB_len (c:=1) (by simp)) ?_
   simp only [List.map_map]
   refine Nat.le_trans (sum_lw (b:=1400 * d + 2) fun q hq => ?_) (hmono _ (by omega))
   have h1:=ih q hq
   have h2:=lw_pos q
   have h3:q.lw * (1400 * d) + 2≤q.lw * (1400 * d + 2):=by rw [Nat.mul_add];omega
   simp only [Function.comp]
   omega
  split
  ·rename_i h6
   have h1:=h.1 h6
   obtain ⟨q,hq⟩:=List.length_eq_one_iff.1 h1
   have h2:=ih q (by rw [hq];simp)
   have h3:=timesT_len (lo:=n.mn) (hi:=n.mx)
   have h4:q.lw≤n.lw:=by rw [hlw,hq];simp only [lws];omega
   have h5:q.lw * (1400 * d)≤n.lw * (1400 * d):=Nat.mul_le_mul_right _ h4
   have h7:n.lw * (1400 * d) + 1400≤n.lw * (1400 * (d + 1)):=by
    rw [show 1400 * (d + 1)=1400 * d + 1400 by omega,Nat.mul_add]
    have:1400≤n.lw * 1400:=Nat.le_mul_of_pos_left _ hpos
    omega
   rw [hq]
   simp only [List.map_cons,List.headD_cons,List.length_append,inRep]
   split
   ·rw [brk_len];omega
   ·omega
  ·simp
theorem put_ok {m:Int}:∀ (d:Nat) {fl:Nat} {n:Node} {ks:AV} {hp:List Blk},Fine d n→KidsR n.kids ks→n.lw≤600→d≤1000→evI (cfg m) fl 26 [nAV n ks] hp=some (.str n.put,hp)
 | 0,_,_,_,_,h,_,_,_=>h.elim
 | d + 1,fl,n,ks,hp,hd,hk,hw,hd1=>by
  have hlen:∀ q,q.lw≤600→Fine d q→q.put.length < 900000000:=fun q hq hf=>by
   have h1:=put_len d q hf
   have h2:q.lw * (1400 * d)≤600 * (1400 * 1000):=Nat.mul_le_mul hq (by omega)
   omega
  have hself:n.put.length < 900000000:=by
   have h1:=put_len (d + 1) n hd
   have h2:n.lw * (1400 * (d + 1))≤600 * (1400 * 1000):=Nat.mul_le_mul hw (by omega)
   omega
  obtain ⟨vs,hs,hR⟩:=hk
  have hl:=hR.1
  have hlw:=n.lw_eq
  have hlk:=lws_len (l:=n.kids)
  have hnv:vs.length < 100000:=by omega
  have kid:∀ q kq,q ∈ n.kids→KidsR q.kids kq→∀ fl h,evI (cfg m) fl 26 [nAV q kq] h=some (.str q.put,h):=fun q kq hq hkq fl h =>
   put_ok (m:=m) d (hd.2.2.2 q hq) hkq (by have:=lw_mem hq;omega) (by omega)
  rw [put_eq] at hself ⊢
  unfold putV at hself ⊢
  by_cases h1:n.kind=1
  ·rw [if_pos h1];exact pt_1 h1 fun fl h=>putS_ok
  rw [if_neg h1] at hself ⊢
  by_cases h2:n.kind=2
  ·rw [if_pos h2];exact pt_2 h2
  rw [if_neg h2] at hself ⊢
  by_cases h3:n.kind=3
  ·rw [if_pos h3];exact pt_3 h3
  rw [if_neg h3] at hself ⊢
  by_cases h4:n.kind=4
  ·rw [if_pos h4] at hself ⊢
   have hL:∀ (r:List Node) (i:Nat) (h:List Blk) (o:AV) (ts:List (List UInt8)),n.kids.drop i=r→hp.length≤h.length→Gr hp.length 1 h o (stV ts)→ts.length=i→∃ h' o',LoopI (cfg m) hp.length 26 (bodyAt (cfg m) 26 11) 11 ⟨pcSt ks o vs.length i,h⟩ (.exit 1) ⟨poEnd o',h'⟩∧Gr hp.length 1 h' o' (stV (ts++r.map fun q=>inCat (q.kind,q.put))):=by
    intro r
    induction r with
    | nil =>
     intro i h o ts hr hh ho hi
     have:n.kids.length≤i:=by simpa using hr
     exact ⟨h,o,pc_x (by omega),by simpa using ho⟩
    | cons q r ih =>
     intro i h o ts hr hh ho hi
     have hq:n.kids[i]?=some q:=by have:=congrArg (·[0]?) hr;simpa using this
     have hlt:i < n.kids.length:=(List.getElem?_eq_some_iff.1 hq).1
     have hr':n.kids.drop (i + 1)=r:=by rw [← List.drop_drop,hr];rfl
     obtain ⟨kq,hv,kvs,k1,k2⟩:=hR.get hq
     have hmem:=List.mem_of_getElem? hq
     have hpq:=kid q kq hmem ⟨kvs,k1,k2⟩
     have hb:=hlen q (by have:=lw_mem hmem;omega) (hd.2.2.2 q hmem)
     have hc:∀ fl h,evI (cfg m) fl 37 [nAV q kq, .lit 1 .exact [.int .i64 5]] h=some (.str (inCat (q.kind,q.put)),h):=fun fl h=>by
      unfold inCat
      by_cases h5:q.kind=5
      ·rw [if_pos h5];exact wi_1 hpq (fun fl h=>co_1 h5) (Nat.lt_trans hb (by omega))
      ·rw [if_neg h5];exact wi_0 hpq (fun fl h=>co_0 h5)
     obtain ⟨h1',o1,s1,s2,s3⟩:=pc_i (m:=m) (fl:=hp.length) hs hv (by omega) hnv ho (by simp [stV];omega) hh hc
     obtain ⟨h2',o2,r1,r2⟩:=ih (i + 1) h1' o1 (ts++[inCat (q.kind,q.put)]) hr' (Nat.le_trans hh s3.1) (by simpa [stV] using s2) (by simp [hi])
     exact ⟨h2',o2,s1 _ _ r1,by simpa using r2⟩
   obtain ⟨h',o',l1,l2⟩:=hL n.kids 0 hp .nilS [] rfl (Nat.le_refl _) (.nil _ _ _) rfl
   rw [List.nil_append] at l2
   have e:(n.kids.map fun q=>inCat (q.kind,q.put))=(n.kids.map fun n=>(n.kind,n.put)).map inCat:=by rw [List.map_map];rfl
   rw [e] at l2
   exact pt_4 hs h4 hnv l1 l2.isSl (by simp;omega) (by omega)
  rw [if_neg h4] at hself ⊢
  by_cases h5:n.kind=5
  ·rw [if_pos h5] at hself ⊢
   have hL:∀ (r:List Node) (i:Nat) (h:List Blk) (o:AV) (ts:List (List UInt8)),n.kids.drop i=r→hp.length≤h.length→Gr hp.length 1 h o (stV ts)→ts.length=i→∃ h' o',LoopI (cfg m) hp.length 26 (bodyAt (cfg m) 26 18) 18 ⟨paSt ks o vs.length i,h⟩ (.exit 3) ⟨poEnd o',h'⟩∧Gr hp.length 1 h' o' (stV (ts++r.map fun q=>q.put)):=by
    intro r
    induction r with
    | nil =>
     intro i h o ts hr hh ho hi
     have:n.kids.length≤i:=by simpa using hr
     exact ⟨h,o,pa_x (by omega),by simpa using ho⟩
    | cons q r ih =>
     intro i h o ts hr hh ho hi
     have hq:n.kids[i]?=some q:=by have:=congrArg (·[0]?) hr;simpa using this
     have hlt:i < n.kids.length:=(List.getElem?_eq_some_iff.1 hq).1
     have hr':n.kids.drop (i + 1)=r:=by rw [← List.drop_drop,hr];rfl
     obtain ⟨kq,hv,kvs,k1,k2⟩:=hR.get hq
     have hmem:=List.mem_of_getElem? hq
     have hpq:=kid q kq hmem ⟨kvs,k1,k2⟩
     obtain ⟨h1',o1,s1,s2,s3⟩:=pa_i (m:=m) (fl:=hp.length) hs hv (by omega) hnv ho (by simp [stV];omega) hh hpq
     obtain ⟨h2',o2,r1,r2⟩:=ih (i + 1) h1' o1 (ts++[q.put]) hr' (Nat.le_trans hh s3.1) (by simpa [stV] using s2) (by simp [hi])
     exact ⟨h2',o2,s1 _ _ r1,by simpa using r2⟩
   obtain ⟨h',o',l1,l2⟩:=hL n.kids 0 hp .nilS [] rfl (Nat.le_refl _) (.nil _ _ _) rfl
   rw [List.nil_append] at l2
   have e:(n.kids.map fun q=>q.put)=(n.kids.map fun n=>(n.kind,n.put)).map (·.2):=by rw [List.map_map];rfl
   rw [e] at l2
   exact pt_5 hs h5 hnv l1 l2.isSl (by simp;omega) (by omega)
  rw [if_neg h5] at hself ⊢
  by_cases h6:n.kind=6
  ·rw [if_pos h6] at hself ⊢
   obtain ⟨q,hq⟩:=List.length_eq_one_iff.1 (hd.1 h6)
   have hq0:n.kids[0]?=some q:=by rw [hq];rfl
   obtain ⟨kq,hv,kvs,k1,k2⟩:=hR.get hq0
   have hmem:=List.mem_of_getElem? hq0
   have hpq:=kid q kq hmem ⟨kvs,k1,k2⟩
   have hb:=hlen q (by have:=lw_mem hmem;omega) (hd.2.2.2 q hmem)
   have hvs:vs=[nAV q kq]:=by
    rw [hq] at hl
    obtain ⟨v,rfl⟩:=List.length_eq_one_iff.1 hl
    simpa using hv
   subst hvs
   obtain ⟨o,rfl⟩:∃ o,ks = .lit 8 o [nAV q kq]:=by
    rcases hs with ⟨_,h⟩ | ⟨o,h⟩
    ·cases h
    ·exact ⟨o,h⟩
   rw [hq]
   simp only [List.map_cons,List.headD_cons]
   have hc:∀ fl h,evI (cfg m) fl 37 [nAV q kq, .lit 1 .exact [.int .i64 0, .int .i64 4, .int .i64 5, .int .i64 6]] h=some (.str (inRep (q.kind,q.put)),h):=fun fl h=>by
    unfold inRep
    by_cases g0:q.kind=0
    ·rw [if_pos (.inl g0)];exact wi_1 hpq (fun fl h=>cr_1 g0) (Nat.lt_trans hb (by omega))
    by_cases g4:q.kind=4
    ·rw [if_pos (.inr (.inl g4))];exact wi_1 hpq (fun fl h=>cr_2 g4) (Nat.lt_trans hb (by omega))
    by_cases g5:q.kind=5
    ·rw [if_pos (.inr (.inr (.inl g5)))];exact wi_1 hpq (fun fl h=>cr_3 g5) (Nat.lt_trans hb (by omega))
    by_cases g6:q.kind=6
    ·rw [if_pos (.inr (.inr (.inr g6)))];exact wi_1 hpq (fun fl h=>cr_4 g6) (Nat.lt_trans hb (by omega))
    ·rw [if_neg (by rintro (h | h | h | h) <;> contradiction)];exact wi_0 hpq (fun fl h=>cr_0 g0 g4 g5 g6)
   have hr:(inRep (q.kind,q.put)).length < 1000000000:=by
    unfold inRep
    dsimp only
    split
    ·rw [brk_len];omega
    ·omega
   exact pt_6 h6 hc (fun fl h=>times_ok hd.2.1 hd.2.2.1) hr (by have:=timesT_len (lo:=n.mn) (hi:=n.mx);omega)
  ·rw [if_neg h6];exact pt_o h1 h2 h3 h4 h5 h6
end Go.Proofs.YtanopbolgfcojaaGreatDoor.E.SZ
namespace Go.Proofs.YtanopbolgfcojaaGreatDoor.E.SZ
open Go Go.Proofs E E.R
abbrev fnR:AV := .fn (.func 34) [] []
theorem r31 {m:Int} {fl:Nat} {n:Node} {ks:AV} {hp:List Blk} (hc:∀ fl h,evI (cfg m) fl 23 [nAV n ks] h=some (.bool true,h)):evI (cfg m) fl 34 [nAV n ks] hp=some (.bool false,hp):=by
 exact evX (AV.bool false) (hp) [.c 1 1 (hc (hp.length) (hp))] (by kernel_rfl) (tlP (by kernel_rfl) rfl (shutT (v:=AV.bool false) (v':=AV.bool false) (by kernel_rfl))) rfl
abbrev rxSt (ks:AV) (N i:Nat):List TV:=[.v ks, .v fnR,J,J,J,J,J, .v (AI N), .v (AI i)]++List.replicate 10 J
theorem rx_n {m:Int} {fl N i:Nat} {hp:List Blk} {vs:List AV} {n:Node} {kn ks:AV} (hk:IsSl 8 ks vs) (hv:vs[i]?=some (nAV n kn)) (hi:i < N) (hN:N < 100000) (hc:∀ fl h,evI (cfg m) fl 23 [nAV n kn] h=some (.bool true,h)):LoopS (cfg m) fl 47 (bodyAt (cfg m) 47 2) 2 ⟨rxSt ks N i,hp⟩ ⟨rxSt ks N (i + 1),hp⟩:=by
 exact loopStepS (St.mk [TV.v ks,TV.v (AV.fn (Fn.func 34) [] []),J,J,J,J,J,TV.v (AI N),TV.v (AI ((↑i:Int) + 1)),J,J,J,J,J,J,J,J,J,J] hp) [.b 2 0 (decide_eq_true ((show (↑i:Int) < (↑N:Int) from (by omega)))), .a 4 3 (indexAddr_sl (C:=cfg m) (t:=41) (n:=(↑i:Int)) hk (by kernel_rfl) (by omega) hv), .c 4 5 (r31 (m:=m) (fl:=fl) (hp:=hp) hc), .w 6 0 IntKind.i64 ((↑i:Int) + 1) (wrap_i64' (by omega))] (by kernel_rfl) rfl
theorem rx_x {m:Int} {fl N i:Nat} {hp:List Blk} {ks:AV} (hi:N≤i):LoopI (cfg m) fl 47 (bodyAt (cfg m) 47 2) 2 ⟨rxSt ks N i,hp⟩ (.exit 0) ⟨List.replicate 19 J,hp⟩:=by
 exact loopEndC (.exit 0) (St.mk ([J]++Jn 18) hp) [.b 2 0 (decide_eq_false ((show ¬(↑i:Int) < (↑N:Int) from (by omega))))] (by kernel_rfl) (fun h=>by cases h) rfl
theorem rx_ok {m:Int} {fl:Nat} {hp:List Blk} {ks:AV} {vs:List AV} (hk:IsSl 8 ks vs) (hN:vs.length < 100000) (hlp:LoopI (cfg m) hp.length 47 (bodyAt (cfg m) 47 2) 2 ⟨rxSt ks vs.length 0,hp⟩ (.exit 0) ⟨List.replicate 19 J,hp⟩):evI (cfg m) fl 47 [ks,fnR] hp=some (.int .i64 (-1),hp):=by
 exact evX (AI (-1)) (hp) [.m 1 1 (len_sl (C:=cfg m) (t:=41) (ts':=[]) (fl:=hp.length) (ar:=false) (hp:=hp) hk (by kernel_rfl)), .l 2 hlp] (by kernel_rfl) (tlP (by kernel_rfl) rfl (shutT (v:=AI (-1)) (v':=AI (-1)) (by kernel_rfl))) rfl
theorem rc_ok {m:Int} {fl:Nat} {hp:List Blk} {ks:AV} (h:∀ fl h,evI (cfg m) fl 47 [ks,fnR] h=some (.int .i64 (-1),h)):evI (cfg m) fl 33 [ks,fnR] hp=some (.bool false,hp):=by
 exact evX (AV.bool false) (hp) [.c 1 2 (h (hp.length) (hp))] (by kernel_rfl) (tlP (by kernel_rfl) rfl (shutT (v:=AV.bool false) (v':=AV.bool false) (by kernel_rfl))) rfl
theorem kd_ok {m:Int} {fl rb:Nat} {hp:List Blk} {n:Node} {ks:AV} {vs:List AV} {a b:Int} (hb:blkCells hp rb=some [AI n.kind,wAV n.set.a,wAV n.set.b,wAV n.set.c,wAV n.set.d,AI n.mn,AI n.mx,ks]) (hk:IsSl 8 ks vs) (h1:a≤(vs.length:Int)) (h2:(vs.length:Int)≤b):evI (cfg m) fl 32 [.int .i64 a, .int .i64 b, .ptr rb 0] hp=some (.bool true,hp):=by
 exact evX (AV.bool true) (hp) [.m 1 1 (load_ok (C:=cfg m) (t:=41) (off:=7) (x:=ks) hb (by kernel_rfl)), .m 1 2 (len_sl (C:=cfg m) (t:=41) (ts':=[]) (fl:=hp.length) (ar:=false) (hp:=hp) hk (by kernel_rfl)), .b 1 4 (decide_eq_true (h1)), .m 1 7 (load_ok (C:=cfg m) (t:=41) (off:=7) (x:=ks) hb (by kernel_rfl)), .m 1 8 (len_sl (C:=cfg m) (t:=41) (ts':=[]) (fl:=hp.length) (ar:=false) (hp:=hp) hk (by kernel_rfl)), .b 1 10 (decide_eq_true (h2))] (by kernel_rfl) (tlP (by kernel_rfl) rfl (shutT (v:=AV.bool true) (v':=AV.bool true) (by kernel_rfl))) rfl
abbrev q0_rt_0 (n:Node) (ks:AV):List AV:=[AI n.kind,AW n.set.a.toNat,AW n.set.b.toNat,AW n.set.c.toNat,AW n.set.d.toNat,AI n.mn,AI n.mx,ks]
theorem rt_0 {m:Int} {fl:Nat} {hp:List Blk} {n:Node} {ks:AV} {vs:List AV} (hk:IsSl 8 ks vs) (hr:∀ fl h,evI (cfg m) fl 33 [ks,fnR] h=some (.bool false,h)) (k1:n.kind=0) (k2:n.set=W4.zero) (k3:n.mn=0) (k4:n.mx=0) (k5:vs.length=0):evI (cfg m) fl 23 [nAV n ks] hp=some (.bool true,hp):=by
 have zz0:=load_ok (C:=cfg m) (t:=3) (b:=hp.length) (off:=0) (hp:=hp++[BC (q0_rt_0 n ks)]) (cs:=(q0_rt_0 n ks)) (x:=AI n.kind) blk_last (by kernel_rfl)
 exact evX (AV.bool true) (hp++[BC (q0_rt_0 n ks)]) [.m 2 1 (load_ok (C:=cfg m) (t:=41) (b:=hp.length) (off:=7) (hp:=hp++[BC (q0_rt_0 n ks)]) (cs:=(q0_rt_0 n ks)) (x:=ks) blk_last (by kernel_rfl)), .c 2 2 (hr (hp.length) (hp++[BC (q0_rt_0 n ks)])), .m 2 5 zz0, .b 2 6 (beq_false_of_ne ((show ¬n.kind=1 from (by omega)))), .m 2 8 (load_ok (C:=cfg m) (t:=40) (b:=hp.length) (off:=1) (hp:=hp++[BC (q0_rt_0 n ks)]) (cs:=(q0_rt_0 n ks)) (x:=AV.agg [AW n.set.a.toNat,AW n.set.b.toNat,AW n.set.c.toNat,AW n.set.d.toNat]) blk_last (by kernel_rfl)), .vb 2 10 (neW4z (C:=cfg m) (t:=40) (cst:=false) (s:=n.set) (by kernel_rfl)) (congrArg not (decide_eq_true (k2))), .m 4 1 (load_ok (C:=cfg m) (t:=3) (b:=hp.length) (off:=5) (hp:=hp++[BC (q0_rt_0 n ks)]) (cs:=(q0_rt_0 n ks)) (x:=AI n.mn) blk_last (by kernel_rfl)), .b 4 2 (beq_iff_eq.2 (k3)), .m 4 5 (load_ok (C:=cfg m) (t:=3) (b:=hp.length) (off:=6) (hp:=hp++[BC (q0_rt_0 n ks)]) (cs:=(q0_rt_0 n ks)) (x:=AI n.mx) blk_last (by kernel_rfl)), .b 4 6 (beq_iff_eq.2 (k4)), .m 5 1 zz0, .b 6 0 (beq_iff_eq.2 (k1)), .c 10 3 (kd_ok (m:=m) (fl:=hp.length) (rb:=hp.length) (hp:=hp++[BC (q0_rt_0 n ks)]) (n:=n) (a:=0) (b:=0) blk_last hk (by omega) (by omega))] (by kernel_rfl) (tlP (by kernel_rfl) rfl (shutT (v:=AV.bool true) (v':=AV.bool true) (by kernel_rfl))) rfl
abbrev q0_rt_2 (n:Node) (ks:AV):List AV:=[AI n.kind,AW n.set.a.toNat,AW n.set.b.toNat,AW n.set.c.toNat,AW n.set.d.toNat,AI n.mn,AI n.mx,ks]
theorem rt_2 {m:Int} {fl:Nat} {hp:List Blk} {n:Node} {ks:AV} {vs:List AV} (hk:IsSl 8 ks vs) (hr:∀ fl h,evI (cfg m) fl 33 [ks,fnR] h=some (.bool false,h)) (k1:n.kind=2) (k2:n.set=W4.zero) (k3:n.mn=0) (k4:n.mx=0) (k5:vs.length=0):evI (cfg m) fl 23 [nAV n ks] hp=some (.bool true,hp):=by
 have zz0:=load_ok (C:=cfg m) (t:=3) (b:=hp.length) (off:=0) (hp:=hp++[BC (q0_rt_2 n ks)]) (cs:=(q0_rt_2 n ks)) (x:=AI n.kind) blk_last (by kernel_rfl)
 exact evX (AV.bool true) (hp++[BC (q0_rt_2 n ks)]) [.m 2 1 (load_ok (C:=cfg m) (t:=41) (b:=hp.length) (off:=7) (hp:=hp++[BC (q0_rt_2 n ks)]) (cs:=(q0_rt_2 n ks)) (x:=ks) blk_last (by kernel_rfl)), .c 2 2 (hr (hp.length) (hp++[BC (q0_rt_2 n ks)])), .m 2 5 zz0, .b 2 6 (beq_false_of_ne ((show ¬n.kind=1 from (by omega)))), .m 2 8 (load_ok (C:=cfg m) (t:=40) (b:=hp.length) (off:=1) (hp:=hp++[BC (q0_rt_2 n ks)]) (cs:=(q0_rt_2 n ks)) (x:=AV.agg [AW n.set.a.toNat,AW n.set.b.toNat,AW n.set.c.toNat,AW n.set.d.toNat]) blk_last (by kernel_rfl)), .vb 2 10 (neW4z (C:=cfg m) (t:=40) (cst:=false) (s:=n.set) (by kernel_rfl)) (congrArg not (decide_eq_true (k2))), .m 4 1 (load_ok (C:=cfg m) (t:=3) (b:=hp.length) (off:=5) (hp:=hp++[BC (q0_rt_2 n ks)]) (cs:=(q0_rt_2 n ks)) (x:=AI n.mn) blk_last (by kernel_rfl)), .b 4 2 (beq_iff_eq.2 (k3)), .m 4 5 (load_ok (C:=cfg m) (t:=3) (b:=hp.length) (off:=6) (hp:=hp++[BC (q0_rt_2 n ks)]) (cs:=(q0_rt_2 n ks)) (x:=AI n.mx) blk_last (by kernel_rfl)), .b 4 6 (beq_iff_eq.2 (k4)), .m 5 1 zz0, .b 6 0 (beq_false_of_ne ((show ¬n.kind=0 from (by omega)))), .b 7 0 (beq_false_of_ne ((show ¬n.kind=1 from (by omega)))), .b 8 0 (beq_iff_eq.2 (k1)), .c 10 3 (kd_ok (m:=m) (fl:=hp.length) (rb:=hp.length) (hp:=hp++[BC (q0_rt_2 n ks)]) (n:=n) (a:=0) (b:=0) blk_last hk (by omega) (by omega))] (by kernel_rfl) (tlP (by kernel_rfl) rfl (shutT (v:=AV.bool true) (v':=AV.bool true) (by kernel_rfl))) rfl
abbrev q0_rt_3 (n:Node) (ks:AV):List AV:=[AI n.kind,AW n.set.a.toNat,AW n.set.b.toNat,AW n.set.c.toNat,AW n.set.d.toNat,AI n.mn,AI n.mx,ks]
theorem rt_3 {m:Int} {fl:Nat} {hp:List Blk} {n:Node} {ks:AV} {vs:List AV} (hk:IsSl 8 ks vs) (hr:∀ fl h,evI (cfg m) fl 33 [ks,fnR] h=some (.bool false,h)) (k1:n.kind=3) (k2:n.set=W4.zero) (k3:n.mn=0) (k4:n.mx=0) (k5:vs.length=0):evI (cfg m) fl 23 [nAV n ks] hp=some (.bool true,hp):=by
 have zz0:=load_ok (C:=cfg m) (t:=3) (b:=hp.length) (off:=0) (hp:=hp++[BC (q0_rt_3 n ks)]) (cs:=(q0_rt_3 n ks)) (x:=AI n.kind) blk_last (by kernel_rfl)
 exact evX (AV.bool true) (hp++[BC (q0_rt_3 n ks)]) [.m 2 1 (load_ok (C:=cfg m) (t:=41) (b:=hp.length) (off:=7) (hp:=hp++[BC (q0_rt_3 n ks)]) (cs:=(q0_rt_3 n ks)) (x:=ks) blk_last (by kernel_rfl)), .c 2 2 (hr (hp.length) (hp++[BC (q0_rt_3 n ks)])), .m 2 5 zz0, .b 2 6 (beq_false_of_ne ((show ¬n.kind=1 from (by omega)))), .m 2 8 (load_ok (C:=cfg m) (t:=40) (b:=hp.length) (off:=1) (hp:=hp++[BC (q0_rt_3 n ks)]) (cs:=(q0_rt_3 n ks)) (x:=AV.agg [AW n.set.a.toNat,AW n.set.b.toNat,AW n.set.c.toNat,AW n.set.d.toNat]) blk_last (by kernel_rfl)), .vb 2 10 (neW4z (C:=cfg m) (t:=40) (cst:=false) (s:=n.set) (by kernel_rfl)) (congrArg not (decide_eq_true (k2))), .m 4 1 (load_ok (C:=cfg m) (t:=3) (b:=hp.length) (off:=5) (hp:=hp++[BC (q0_rt_3 n ks)]) (cs:=(q0_rt_3 n ks)) (x:=AI n.mn) blk_last (by kernel_rfl)), .b 4 2 (beq_iff_eq.2 (k3)), .m 4 5 (load_ok (C:=cfg m) (t:=3) (b:=hp.length) (off:=6) (hp:=hp++[BC (q0_rt_3 n ks)]) (cs:=(q0_rt_3 n ks)) (x:=AI n.mx) blk_last (by kernel_rfl)), .b 4 6 (beq_iff_eq.2 (k4)), .m 5 1 zz0, .b 6 0 (beq_false_of_ne ((show ¬n.kind=0 from (by omega)))), .b 7 0 (beq_false_of_ne ((show ¬n.kind=1 from (by omega)))), .b 8 0 (beq_false_of_ne ((show ¬n.kind=2 from (by omega)))), .b 9 0 (beq_iff_eq.2 (k1)), .c 10 3 (kd_ok (m:=m) (fl:=hp.length) (rb:=hp.length) (hp:=hp++[BC (q0_rt_3 n ks)]) (n:=n) (a:=0) (b:=0) blk_last hk (by omega) (by omega))] (by kernel_rfl) (tlP (by kernel_rfl) rfl (shutT (v:=AV.bool true) (v':=AV.bool true) (by kernel_rfl))) rfl
abbrev q0_rt_1 (n:Node) (ks:AV):List AV:=[AI n.kind,AW n.set.a.toNat,AW n.set.b.toNat,AW n.set.c.toNat,AW n.set.d.toNat,AI n.mn,AI n.mx,ks]
theorem rt_1 {m:Int} {fl:Nat} {hp:List Blk} {n:Node} {ks:AV} {vs:List AV} (hk:IsSl 8 ks vs) (hr:∀ fl h,evI (cfg m) fl 33 [ks,fnR] h=some (.bool false,h)) (k1:n.kind=1) (k2:¬ n.set=W4.zero) (k3:n.mn=0) (k4:n.mx=0) (k5:vs.length=0):evI (cfg m) fl 23 [nAV n ks] hp=some (.bool true,hp):=by
 have zz0:=load_ok (C:=cfg m) (t:=3) (b:=hp.length) (off:=0) (hp:=hp++[BC (q0_rt_1 n ks)]) (cs:=(q0_rt_1 n ks)) (x:=AI n.kind) blk_last (by kernel_rfl)
 exact evX (AV.bool true) (hp++[BC (q0_rt_1 n ks)]) [.m 2 1 (load_ok (C:=cfg m) (t:=41) (b:=hp.length) (off:=7) (hp:=hp++[BC (q0_rt_1 n ks)]) (cs:=(q0_rt_1 n ks)) (x:=ks) blk_last (by kernel_rfl)), .c 2 2 (hr (hp.length) (hp++[BC (q0_rt_1 n ks)])), .m 2 5 zz0, .b 2 6 (beq_iff_eq.2 (k1)), .m 2 8 (load_ok (C:=cfg m) (t:=40) (b:=hp.length) (off:=1) (hp:=hp++[BC (q0_rt_1 n ks)]) (cs:=(q0_rt_1 n ks)) (x:=AV.agg [AW n.set.a.toNat,AW n.set.b.toNat,AW n.set.c.toNat,AW n.set.d.toNat]) blk_last (by kernel_rfl)), .vb 2 10 (neW4z (C:=cfg m) (t:=40) (cst:=false) (s:=n.set) (by kernel_rfl)) (congrArg not (decide_eq_false (k2))), .m 4 1 (load_ok (C:=cfg m) (t:=3) (b:=hp.length) (off:=5) (hp:=hp++[BC (q0_rt_1 n ks)]) (cs:=(q0_rt_1 n ks)) (x:=AI n.mn) blk_last (by kernel_rfl)), .b 4 2 (beq_iff_eq.2 (k3)), .m 4 5 (load_ok (C:=cfg m) (t:=3) (b:=hp.length) (off:=6) (hp:=hp++[BC (q0_rt_1 n ks)]) (cs:=(q0_rt_1 n ks)) (x:=AI n.mx) blk_last (by kernel_rfl)), .b 4 6 (beq_iff_eq.2 (k4)), .m 5 1 zz0, .b 6 0 (beq_false_of_ne ((show ¬n.kind=0 from (by omega)))), .b 7 0 (beq_iff_eq.2 (k1)), .c 10 3 (kd_ok (m:=m) (fl:=hp.length) (rb:=hp.length) (hp:=hp++[BC (q0_rt_1 n ks)]) (n:=n) (a:=0) (b:=0) blk_last hk (by omega) (by omega))] (by kernel_rfl) (tlP (by kernel_rfl) rfl (shutT (v:=AV.bool true) (v':=AV.bool true) (by kernel_rfl))) rfl
abbrev q0_rt_4 (n:Node) (ks:AV):List AV:=[AI n.kind,AW n.set.a.toNat,AW n.set.b.toNat,AW n.set.c.toNat,AW n.set.d.toNat,AI n.mn,AI n.mx,ks]
theorem rt_4 {m:Int} {fl:Nat} {hp:List Blk} {n:Node} {ks:AV} {vs:List AV} (hk:IsSl 8 ks vs) (hr:∀ fl h,evI (cfg m) fl 33 [ks,fnR] h=some (.bool false,h)) (k1:n.kind=4) (k2:n.set=W4.zero) (k3:n.mn=0) (k4:n.mx=0) (k5:2≤vs.length) (k6:vs.length≤1000000):evI (cfg m) fl 23 [nAV n ks] hp=some (.bool true,hp):=by
 have zz0:=load_ok (C:=cfg m) (t:=3) (b:=hp.length) (off:=0) (hp:=hp++[BC (q0_rt_4 n ks)]) (cs:=(q0_rt_4 n ks)) (x:=AI n.kind) blk_last (by kernel_rfl)
 exact evX (AV.bool true) (hp++[BC (q0_rt_4 n ks)]) [.m 2 1 (load_ok (C:=cfg m) (t:=41) (b:=hp.length) (off:=7) (hp:=hp++[BC (q0_rt_4 n ks)]) (cs:=(q0_rt_4 n ks)) (x:=ks) blk_last (by kernel_rfl)), .c 2 2 (hr (hp.length) (hp++[BC (q0_rt_4 n ks)])), .m 2 5 zz0, .b 2 6 (beq_false_of_ne ((show ¬n.kind=1 from (by omega)))), .m 2 8 (load_ok (C:=cfg m) (t:=40) (b:=hp.length) (off:=1) (hp:=hp++[BC (q0_rt_4 n ks)]) (cs:=(q0_rt_4 n ks)) (x:=AV.agg [AW n.set.a.toNat,AW n.set.b.toNat,AW n.set.c.toNat,AW n.set.d.toNat]) blk_last (by kernel_rfl)), .vb 2 10 (neW4z (C:=cfg m) (t:=40) (cst:=false) (s:=n.set) (by kernel_rfl)) (congrArg not (decide_eq_true (k2))), .m 4 1 (load_ok (C:=cfg m) (t:=3) (b:=hp.length) (off:=5) (hp:=hp++[BC (q0_rt_4 n ks)]) (cs:=(q0_rt_4 n ks)) (x:=AI n.mn) blk_last (by kernel_rfl)), .b 4 2 (beq_iff_eq.2 (k3)), .m 4 5 (load_ok (C:=cfg m) (t:=3) (b:=hp.length) (off:=6) (hp:=hp++[BC (q0_rt_4 n ks)]) (cs:=(q0_rt_4 n ks)) (x:=AI n.mx) blk_last (by kernel_rfl)), .b 4 6 (beq_iff_eq.2 (k4)), .m 5 1 zz0, .b 6 0 (beq_false_of_ne ((show ¬n.kind=0 from (by omega)))), .b 7 0 (beq_false_of_ne ((show ¬n.kind=1 from (by omega)))), .b 8 0 (beq_false_of_ne ((show ¬n.kind=2 from (by omega)))), .b 9 0 (beq_false_of_ne ((show ¬n.kind=3 from (by omega)))), .b 11 0 (beq_iff_eq.2 (k1)), .c 13 3 (kd_ok (m:=m) (fl:=hp.length) (rb:=hp.length) (hp:=hp++[BC (q0_rt_4 n ks)]) (n:=n) (a:=2) (b:=1000000) blk_last hk (by omega) (by omega))] (by kernel_rfl) (tlP (by kernel_rfl) rfl (shutT (v:=AV.bool true) (v':=AV.bool true) (by kernel_rfl))) rfl
abbrev q0_rt_5 (n:Node) (ks:AV):List AV:=[AI n.kind,AW n.set.a.toNat,AW n.set.b.toNat,AW n.set.c.toNat,AW n.set.d.toNat,AI n.mn,AI n.mx,ks]
theorem rt_5 {m:Int} {fl:Nat} {hp:List Blk} {n:Node} {ks:AV} {vs:List AV} (hk:IsSl 8 ks vs) (hr:∀ fl h,evI (cfg m) fl 33 [ks,fnR] h=some (.bool false,h)) (k1:n.kind=5) (k2:n.set=W4.zero) (k3:n.mn=0) (k4:n.mx=0) (k5:2≤vs.length) (k6:vs.length≤1000000):evI (cfg m) fl 23 [nAV n ks] hp=some (.bool true,hp):=by
 have zz0:=load_ok (C:=cfg m) (t:=3) (b:=hp.length) (off:=0) (hp:=hp++[BC (q0_rt_5 n ks)]) (cs:=(q0_rt_5 n ks)) (x:=AI n.kind) blk_last (by kernel_rfl)
 exact evX (AV.bool true) (hp++[BC (q0_rt_5 n ks)]) [.m 2 1 (load_ok (C:=cfg m) (t:=41) (b:=hp.length) (off:=7) (hp:=hp++[BC (q0_rt_5 n ks)]) (cs:=(q0_rt_5 n ks)) (x:=ks) blk_last (by kernel_rfl)), .c 2 2 (hr (hp.length) (hp++[BC (q0_rt_5 n ks)])), .m 2 5 zz0, .b 2 6 (beq_false_of_ne ((show ¬n.kind=1 from (by omega)))), .m 2 8 (load_ok (C:=cfg m) (t:=40) (b:=hp.length) (off:=1) (hp:=hp++[BC (q0_rt_5 n ks)]) (cs:=(q0_rt_5 n ks)) (x:=AV.agg [AW n.set.a.toNat,AW n.set.b.toNat,AW n.set.c.toNat,AW n.set.d.toNat]) blk_last (by kernel_rfl)), .vb 2 10 (neW4z (C:=cfg m) (t:=40) (cst:=false) (s:=n.set) (by kernel_rfl)) (congrArg not (decide_eq_true (k2))), .m 4 1 (load_ok (C:=cfg m) (t:=3) (b:=hp.length) (off:=5) (hp:=hp++[BC (q0_rt_5 n ks)]) (cs:=(q0_rt_5 n ks)) (x:=AI n.mn) blk_last (by kernel_rfl)), .b 4 2 (beq_iff_eq.2 (k3)), .m 4 5 (load_ok (C:=cfg m) (t:=3) (b:=hp.length) (off:=6) (hp:=hp++[BC (q0_rt_5 n ks)]) (cs:=(q0_rt_5 n ks)) (x:=AI n.mx) blk_last (by kernel_rfl)), .b 4 6 (beq_iff_eq.2 (k4)), .m 5 1 zz0, .b 6 0 (beq_false_of_ne ((show ¬n.kind=0 from (by omega)))), .b 7 0 (beq_false_of_ne ((show ¬n.kind=1 from (by omega)))), .b 8 0 (beq_false_of_ne ((show ¬n.kind=2 from (by omega)))), .b 9 0 (beq_false_of_ne ((show ¬n.kind=3 from (by omega)))), .b 11 0 (beq_false_of_ne ((show ¬n.kind=4 from (by omega)))), .b 12 0 (beq_iff_eq.2 (k1)), .c 13 3 (kd_ok (m:=m) (fl:=hp.length) (rb:=hp.length) (hp:=hp++[BC (q0_rt_5 n ks)]) (n:=n) (a:=2) (b:=1000000) blk_last hk (by omega) (by omega))] (by kernel_rfl) (tlP (by kernel_rfl) rfl (shutT (v:=AV.bool true) (v':=AV.bool true) (by kernel_rfl))) rfl
abbrev q0_rt_6a (n:Node) (ks:AV):List AV:=[AI n.kind,AW n.set.a.toNat,AW n.set.b.toNat,AW n.set.c.toNat,AW n.set.d.toNat,AI n.mn,AI n.mx,ks]
theorem rt_6a {m:Int} {fl:Nat} {hp:List Blk} {n:Node} {ks:AV} {vs:List AV} (hk:IsSl 8 ks vs) (hr:∀ fl h,evI (cfg m) fl 33 [ks,fnR] h=some (.bool false,h)) (k1:n.kind=6) (k2:n.set=W4.zero) (k3:0≤n.mn) (k4:n.mn≤20) (k5:vs.length=1) (k6:n.mx = -1):evI (cfg m) fl 23 [nAV n ks] hp=some (.bool true,hp):=by
 have zz4:=load_ok (C:=cfg m) (t:=41) (b:=hp.length) (off:=7) (hp:=hp++[BC (q0_rt_6a n ks)]) (cs:=(q0_rt_6a n ks)) (x:=ks) blk_last (by kernel_rfl)
 have zz3:=load_ok (C:=cfg m) (t:=40) (b:=hp.length) (off:=1) (hp:=hp++[BC (q0_rt_6a n ks)]) (cs:=(q0_rt_6a n ks)) (x:=AV.agg [AW n.set.a.toNat,AW n.set.b.toNat,AW n.set.c.toNat,AW n.set.d.toNat]) blk_last (by kernel_rfl)
 have zz2:=load_ok (C:=cfg m) (t:=3) (b:=hp.length) (off:=6) (hp:=hp++[BC (q0_rt_6a n ks)]) (cs:=(q0_rt_6a n ks)) (x:=AI n.mx) blk_last (by kernel_rfl)
 have zz1:=load_ok (C:=cfg m) (t:=3) (b:=hp.length) (off:=0) (hp:=hp++[BC (q0_rt_6a n ks)]) (cs:=(q0_rt_6a n ks)) (x:=AI n.kind) blk_last (by kernel_rfl)
 have zz0:=load_ok (C:=cfg m) (t:=3) (b:=hp.length) (off:=5) (hp:=hp++[BC (q0_rt_6a n ks)]) (cs:=(q0_rt_6a n ks)) (x:=AI n.mn) blk_last (by kernel_rfl)
 by_cases h1:n.mn=0
 ·exact evX (AV.bool true) (hp++[BC (q0_rt_6a n ks)]) [.m 2 1 zz4, .c 2 2 (hr (hp.length) (hp++[BC (q0_rt_6a n ks)])), .m 2 5 zz1, .b 2 6 (beq_false_of_ne ((show ¬n.kind=1 from (by omega)))), .m 2 8 zz3, .vb 2 10 (neW4z (C:=cfg m) (t:=40) (cst:=false) (s:=n.set) (by kernel_rfl)) (congrArg not (decide_eq_true (k2))), .m 4 1 zz0, .b 4 2 (beq_iff_eq.2 h1), .m 4 5 zz2, .b 4 6 (beq_false_of_ne ((show ¬n.mx=0 from (by omega)))), .m 5 1 zz1, .b 6 0 (beq_false_of_ne ((show ¬n.kind=0 from (by omega)))), .b 7 0 (beq_false_of_ne ((show ¬n.kind=1 from (by omega)))), .b 8 0 (beq_false_of_ne ((show ¬n.kind=2 from (by omega)))), .b 9 0 (beq_false_of_ne ((show ¬n.kind=3 from (by omega)))), .b 11 0 (beq_false_of_ne ((show ¬n.kind=4 from (by omega)))), .b 12 0 (beq_false_of_ne ((show ¬n.kind=5 from (by omega)))), .b 14 0 (beq_iff_eq.2 (k1)), .c 15 1 (kd_ok (m:=m) (fl:=hp.length) (rb:=hp.length) (hp:=hp++[BC (q0_rt_6a n ks)]) (n:=n) (a:=1) (b:=1) blk_last hk (by omega) (by omega)), .m 15 4 zz0, .b 15 5 (decide_eq_true (k3)), .m 15 9 zz0, .b 15 10 (decide_eq_true (k4)), .m 15 14 zz2, .b 15 15 (beq_iff_eq.2 (k6))] (by kernel_rfl) (tlP (by kernel_rfl) rfl (shutT (v:=AV.bool true) (v':=AV.bool true) (by kernel_rfl))) rfl
 ·exact evX (AV.bool true) (hp++[BC (q0_rt_6a n ks)]) [.m 2 1 zz4, .c 2 2 (hr (hp.length) (hp++[BC (q0_rt_6a n ks)])), .m 2 5 zz1, .b 2 6 (beq_false_of_ne ((show ¬n.kind=1 from (by omega)))), .m 2 8 zz3, .vb 2 10 (neW4z (C:=cfg m) (t:=40) (cst:=false) (s:=n.set) (by kernel_rfl)) (congrArg not (decide_eq_true (k2))), .m 4 1 zz0, .b 4 2 (beq_false_of_ne h1), .m 5 1 zz1, .b 6 0 (beq_false_of_ne ((show ¬n.kind=0 from (by omega)))), .b 7 0 (beq_false_of_ne ((show ¬n.kind=1 from (by omega)))), .b 8 0 (beq_false_of_ne ((show ¬n.kind=2 from (by omega)))), .b 9 0 (beq_false_of_ne ((show ¬n.kind=3 from (by omega)))), .b 11 0 (beq_false_of_ne ((show ¬n.kind=4 from (by omega)))), .b 12 0 (beq_false_of_ne ((show ¬n.kind=5 from (by omega)))), .b 14 0 (beq_iff_eq.2 (k1)), .c 15 1 (kd_ok (m:=m) (fl:=hp.length) (rb:=hp.length) (hp:=hp++[BC (q0_rt_6a n ks)]) (n:=n) (a:=1) (b:=1) blk_last hk (by omega) (by omega)), .m 15 4 zz0, .b 15 5 (decide_eq_true (k3)), .m 15 9 zz0, .b 15 10 (decide_eq_true (k4)), .m 15 14 zz2, .b 15 15 (beq_iff_eq.2 (k6))] (by kernel_rfl) (tlP (by kernel_rfl) rfl (shutT (v:=AV.bool true) (v':=AV.bool true) (by kernel_rfl))) rfl
abbrev q0_rt_6b (n:Node) (ks:AV):List AV:=[AI n.kind,AW n.set.a.toNat,AW n.set.b.toNat,AW n.set.c.toNat,AW n.set.d.toNat,AI n.mn,AI n.mx,ks]
theorem rt_6b {m:Int} {fl:Nat} {hp:List Blk} {n:Node} {ks:AV} {vs:List AV} (hk:IsSl 8 ks vs) (hr:∀ fl h,evI (cfg m) fl 33 [ks,fnR] h=some (.bool false,h)) (k1:n.kind=6) (k2:n.set=W4.zero) (k3:0≤n.mn) (k4:n.mn≤20) (k5:vs.length=1) (k6:¬ n.mx = -1) (k7:n.mn≤n.mx) (k8:n.mx≤20):evI (cfg m) fl 23 [nAV n ks] hp=some (.bool true,hp):=by
 have zz4:=load_ok (C:=cfg m) (t:=41) (b:=hp.length) (off:=7) (hp:=hp++[BC (q0_rt_6b n ks)]) (cs:=(q0_rt_6b n ks)) (x:=ks) blk_last (by kernel_rfl)
 have zz3:=load_ok (C:=cfg m) (t:=40) (b:=hp.length) (off:=1) (hp:=hp++[BC (q0_rt_6b n ks)]) (cs:=(q0_rt_6b n ks)) (x:=AV.agg [AW n.set.a.toNat,AW n.set.b.toNat,AW n.set.c.toNat,AW n.set.d.toNat]) blk_last (by kernel_rfl)
 have zz2:=load_ok (C:=cfg m) (t:=3) (b:=hp.length) (off:=0) (hp:=hp++[BC (q0_rt_6b n ks)]) (cs:=(q0_rt_6b n ks)) (x:=AI n.kind) blk_last (by kernel_rfl)
 have zz1:=load_ok (C:=cfg m) (t:=3) (b:=hp.length) (off:=6) (hp:=hp++[BC (q0_rt_6b n ks)]) (cs:=(q0_rt_6b n ks)) (x:=AI n.mx) blk_last (by kernel_rfl)
 have zz0:=load_ok (C:=cfg m) (t:=3) (b:=hp.length) (off:=5) (hp:=hp++[BC (q0_rt_6b n ks)]) (cs:=(q0_rt_6b n ks)) (x:=AI n.mn) blk_last (by kernel_rfl)
 by_cases h1:n.mn=0
 ·by_cases h2:n.mx=0
  ·exact evX (AV.bool true) (hp++[BC (q0_rt_6b n ks)]) [.m 2 1 zz4, .c 2 2 (hr (hp.length) (hp++[BC (q0_rt_6b n ks)])), .m 2 5 zz2, .b 2 6 (beq_false_of_ne ((show ¬n.kind=1 from (by omega)))), .m 2 8 zz3, .vb 2 10 (neW4z (C:=cfg m) (t:=40) (cst:=false) (s:=n.set) (by kernel_rfl)) (congrArg not (decide_eq_true (k2))), .m 4 1 zz0, .b 4 2 (beq_iff_eq.2 h1), .m 4 5 zz1, .b 4 6 (beq_iff_eq.2 h2), .m 5 1 zz2, .b 6 0 (beq_false_of_ne ((show ¬n.kind=0 from (by omega)))), .b 7 0 (beq_false_of_ne ((show ¬n.kind=1 from (by omega)))), .b 8 0 (beq_false_of_ne ((show ¬n.kind=2 from (by omega)))), .b 9 0 (beq_false_of_ne ((show ¬n.kind=3 from (by omega)))), .b 11 0 (beq_false_of_ne ((show ¬n.kind=4 from (by omega)))), .b 12 0 (beq_false_of_ne ((show ¬n.kind=5 from (by omega)))), .b 14 0 (beq_iff_eq.2 (k1)), .c 15 1 (kd_ok (m:=m) (fl:=hp.length) (rb:=hp.length) (hp:=hp++[BC (q0_rt_6b n ks)]) (n:=n) (a:=1) (b:=1) blk_last hk (by omega) (by omega)), .m 15 4 zz0, .b 15 5 (decide_eq_true (k3)), .m 15 9 zz0, .b 15 10 (decide_eq_true (k4)), .m 15 14 zz1, .b 15 15 (beq_false_of_ne (k6)), .m 15 18 zz1, .m 15 20 zz0, .b 15 21 (decide_eq_true (k7)), .m 15 24 zz1, .b 15 25 (decide_eq_true (k8))] (by kernel_rfl) (tlP (by kernel_rfl) rfl (shutT (v:=AV.bool true) (v':=AV.bool true) (by kernel_rfl))) rfl
  ·exact evX (AV.bool true) (hp++[BC (q0_rt_6b n ks)]) [.m 2 1 zz4, .c 2 2 (hr (hp.length) (hp++[BC (q0_rt_6b n ks)])), .m 2 5 zz2, .b 2 6 (beq_false_of_ne ((show ¬n.kind=1 from (by omega)))), .m 2 8 zz3, .vb 2 10 (neW4z (C:=cfg m) (t:=40) (cst:=false) (s:=n.set) (by kernel_rfl)) (congrArg not (decide_eq_true (k2))), .m 4 1 zz0, .b 4 2 (beq_iff_eq.2 h1), .m 4 5 zz1, .b 4 6 (beq_false_of_ne h2), .m 5 1 zz2, .b 6 0 (beq_false_of_ne ((show ¬n.kind=0 from (by omega)))), .b 7 0 (beq_false_of_ne ((show ¬n.kind=1 from (by omega)))), .b 8 0 (beq_false_of_ne ((show ¬n.kind=2 from (by omega)))), .b 9 0 (beq_false_of_ne ((show ¬n.kind=3 from (by omega)))), .b 11 0 (beq_false_of_ne ((show ¬n.kind=4 from (by omega)))), .b 12 0 (beq_false_of_ne ((show ¬n.kind=5 from (by omega)))), .b 14 0 (beq_iff_eq.2 (k1)), .c 15 1 (kd_ok (m:=m) (fl:=hp.length) (rb:=hp.length) (hp:=hp++[BC (q0_rt_6b n ks)]) (n:=n) (a:=1) (b:=1) blk_last hk (by omega) (by omega)), .m 15 4 zz0, .b 15 5 (decide_eq_true (k3)), .m 15 9 zz0, .b 15 10 (decide_eq_true (k4)), .m 15 14 zz1, .b 15 15 (beq_false_of_ne (k6)), .m 15 18 zz1, .m 15 20 zz0, .b 15 21 (decide_eq_true (k7)), .m 15 24 zz1, .b 15 25 (decide_eq_true (k8))] (by kernel_rfl) (tlP (by kernel_rfl) rfl (shutT (v:=AV.bool true) (v':=AV.bool true) (by kernel_rfl))) rfl
 ·exact evX (AV.bool true) (hp++[BC (q0_rt_6b n ks)]) [.m 2 1 zz4, .c 2 2 (hr (hp.length) (hp++[BC (q0_rt_6b n ks)])), .m 2 5 zz2, .b 2 6 (beq_false_of_ne ((show ¬n.kind=1 from (by omega)))), .m 2 8 zz3, .vb 2 10 (neW4z (C:=cfg m) (t:=40) (cst:=false) (s:=n.set) (by kernel_rfl)) (congrArg not (decide_eq_true (k2))), .m 4 1 zz0, .b 4 2 (beq_false_of_ne h1), .m 5 1 zz2, .b 6 0 (beq_false_of_ne ((show ¬n.kind=0 from (by omega)))), .b 7 0 (beq_false_of_ne ((show ¬n.kind=1 from (by omega)))), .b 8 0 (beq_false_of_ne ((show ¬n.kind=2 from (by omega)))), .b 9 0 (beq_false_of_ne ((show ¬n.kind=3 from (by omega)))), .b 11 0 (beq_false_of_ne ((show ¬n.kind=4 from (by omega)))), .b 12 0 (beq_false_of_ne ((show ¬n.kind=5 from (by omega)))), .b 14 0 (beq_iff_eq.2 (k1)), .c 15 1 (kd_ok (m:=m) (fl:=hp.length) (rb:=hp.length) (hp:=hp++[BC (q0_rt_6b n ks)]) (n:=n) (a:=1) (b:=1) blk_last hk (by omega) (by omega)), .m 15 4 zz0, .b 15 5 (decide_eq_true (k3)), .m 15 9 zz0, .b 15 10 (decide_eq_true (k4)), .m 15 14 zz1, .b 15 15 (beq_false_of_ne (k6)), .m 15 18 zz1, .m 15 20 zz0, .b 15 21 (decide_eq_true (k7)), .m 15 24 zz1, .b 15 25 (decide_eq_true (k8))] (by kernel_rfl) (tlP (by kernel_rfl) rfl (shutT (v:=AV.bool true) (v':=AV.bool true) (by kernel_rfl))) rfl
end Go.Proofs.YtanopbolgfcojaaGreatDoor.E.SZ
namespace Go.Proofs.YtanopbolgfcojaaGreatDoor.E.SZ
section
open Go Go.Proofs E E.R
end
end Go.Proofs.YtanopbolgfcojaaGreatDoor.E.SZ
namespace Go.Proofs.YtanopbolgfcojaaGreatDoor.E.SZ
open Go Go.Proofs E E.R
inductive Shape:Node→Prop
 | empty:Shape (.mk 0 W4.zero 0 0 [])
 | one (s:W4) (h:s≠W4.zero):Shape (.mk 1 s 0 0 [])
 | beg:Shape (.mk 2 W4.zero 0 0 [])
 | fin:Shape (.mk 3 W4.zero 0 0 [])
 | cat (l:List Node) (h:2≤l.length) (hk:∀ k ∈ l,k.kind≠0∧k.kind≠4):Shape (.mk 4 W4.zero 0 0 l)
 | alt (l:List Node) (h:2≤l.length) (hk:∀ k ∈ l,k.kind≠5):Shape (.mk 5 W4.zero 0 0 l)
 | rep (a b:Int) (q:Node) (h0:0≤a) (h1:a≤20) (h2:b = -1∨a≤b∧b≤20):Shape (.mk 6 W4.zero a b [q])
def Norm:Nat→Node→Prop
 | 0,_=>False
 | d + 1,n=>Shape n∧∀ k ∈ n.kids,Norm d k
theorem Norm.mono:∀ {d e:Nat} {n:Node},Norm d n→d≤e→Norm e n
 | 0,_,_,h,_=>h.elim
 | d + 1,0,_,_,h=>by omega
 | d + 1,e + 1,_,h,he=>⟨h.1,fun k hk=>Norm.mono (h.2 k hk) (by omega)⟩
theorem Norm.dep:∀ {d:Nat} {n:Node},Norm d n→Dep d n
 | 0,_,h=>h
 | d + 1,_,h=>fun k hk=>Norm.dep (h.2 k hk)
theorem Norm.fine:∀ {d:Nat} {n:Node},Norm d n→Fine d n
 | 0,_,h=>h
 | d + 1,n,h=>by
  refine ⟨?_, ?_, ?_,fun k hk=>Norm.fine (h.2 k hk)⟩
  ·intro h6
   cases h.1 with
   | rep=>rfl
   | _=>simp [Node.kind] at h6
  ·cases h.1 <;> simp only [Node.mn] <;> omega
  ·cases h.1 <;> simp only [Node.mx] <;> omega
theorem right_ok {m:Int}:∀ (d:Nat) {fl:Nat} {n:Node} {ks:AV} {hp:List Blk},Norm d n→KidsR n.kids ks→n.lw < 100000→evI (cfg m) fl 23 [nAV n ks] hp=some (.bool true,hp)
 | 0,_,_,_,_,h,_,_=>h.elim
 | d + 1,fl,n,ks,hp,hd,hk,hw=>by
  obtain ⟨vs,hs,hR⟩:=hk
  have hl:=hR.1
  have hlw:=n.lw_eq
  have h1:=lws_len (l:=n.kids)
  have hnv:vs.length < 100000:=by omega
  have hL:∀ (hp:List Blk) (fl:Nat) (r:List Node) (i:Nat),n.kids.drop i=r→LoopI (cfg m) fl 47 (bodyAt (cfg m) 47 2) 2 ⟨rxSt ks vs.length i,hp⟩ (.exit 0) ⟨List.replicate 19 J,hp⟩:=by
   intro hp fl r
   induction r with
   | nil =>
    intro i hr
    have:n.kids.length≤i:=by simpa using hr
    exact rx_x (by omega)
   | cons q r ih =>
    intro i hr
    have hq:n.kids[i]?=some q:=by have:=congrArg (·[0]?) hr;simpa using this
    have hi:i < n.kids.length:=(List.getElem?_eq_some_iff.1 hq).1
    have hr':n.kids.drop (i + 1)=r:=by rw [← List.drop_drop,hr];rfl
    obtain ⟨kq,hv,kvs,k1,k2⟩:=hR.get hq
    have hmem:=List.mem_of_getElem? hq
    have hc:=fun fl hp=>right_ok (m:=m) d (fl:=fl) (hp:=hp) (hd.2 q hmem) ⟨kvs,k1,k2⟩ (by have:=lw_mem hmem;omega)
    exact rx_n hs hv (by omega) hnv hc _ _ (ih (i + 1) hr')
  have h48:∀ fl h,evI (cfg m) fl 47 [ks,fnR] h=some (.int .i64 (-1),h):=fun fl h=>rx_ok hs hnv (hL h h.length n.kids 0 rfl)
  have h30:∀ fl h,evI (cfg m) fl 33 [ks,fnR] h=some (.bool false,h):=fun fl h=>rc_ok h48
  cases hd.1 with
  | empty=>exact rt_0 hs h30 rfl rfl rfl rfl (by simpa [Node.kids] using hl)
  | one s h=>exact rt_1 (n := .mk 1 s 0 0 []) hs h30 rfl h rfl rfl (by simpa [Node.kids] using hl)
  | beg=>exact rt_2 (n := .mk 2 W4.zero 0 0 []) hs h30 rfl rfl rfl rfl (by simpa [Node.kids] using hl)
  | fin=>exact rt_3 (n := .mk 3 W4.zero 0 0 []) hs h30 rfl rfl rfl rfl (by simpa [Node.kids] using hl)
  | cat l h _=>exact rt_4 (n := .mk 4 W4.zero 0 0 l) hs h30 rfl rfl rfl rfl (by rw [hl];exact h) (by omega)
  | alt l h _=>exact rt_5 (n := .mk 5 W4.zero 0 0 l) hs h30 rfl rfl rfl rfl (by rw [hl];exact h) (by omega)
  | rep a b q g0 g1 g2 =>
   rcases g2 with g2 | ⟨g2,g3⟩
   ·exact rt_6a (n := .mk 6 W4.zero a b [q]) hs h30 rfl rfl g0 g1 (by simpa [Node.kids] using hl) g2
   ·exact rt_6b (n := .mk 6 W4.zero a b [q]) hs h30 rfl rfl g0 g1 (by simpa [Node.kids] using hl) (show ¬ b = -1 by omega) g2 g3
end Go.Proofs.YtanopbolgfcojaaGreatDoor.E.SZ
namespace Go.Proofs.YtanopbolgfcojaaGreatDoor.E.R
theorem zero_has (x:Nat):W4.zero.has x=false:=by
 unfold W4.has W4.word W4.zero
 split <;> simp
end Go.Proofs.YtanopbolgfcojaaGreatDoor.E.R
namespace Go.Proofs.YtanopbolgfcojaaGreatDoor.E.SZ
open Go Go.Proofs E E.R
theorem with_ne {a b:UInt8} (h:a.toNat≤b.toNat):W4.zero.with a b≠W4.zero:=fun e=>by
 have h1:=W4.with_has W4.zero a b a.toNat a.toNat_lt
 rw [e,zero_has] at h1
 simp [h] at h1
end Go.Proofs.YtanopbolgfcojaaGreatDoor.E.SZ
namespace Go.Proofs.YtanopbolgfcojaaGreatDoor.E.SZ
open Go Go.Proofs E E.R Go.Lib
theorem while_digs {l t:List UInt8} (h:l.all isDig=true) (hc:isDig (t.headD 0)=false):(l++t).takeWhile isDig=l∧(l++t).dropWhile isDig=t:=by
 induction l with
 | nil =>
  cases t with
  | nil=>exact ⟨rfl,rfl⟩
  | cons c t =>
   have hc':¬ isDig c=true:=by simpa using hc
   rw [List.nil_append,List.takeWhile_cons_of_neg hc',List.dropWhile_cons_of_neg hc']
   exact ⟨rfl,rfl⟩
 | cons c l ih =>
  simp only [List.all_cons,Bool.and_eq_true] at h
  obtain ⟨h1,h2⟩:=ih h.2
  rw [List.cons_append,List.takeWhile_cons_of_pos h.1,List.dropWhile_cons_of_pos h.1,h1,h2]
  exact ⟨rfl,rfl⟩
theorem numP_true {s:List UInt8} (h:(numP s).2=true):itoaE (numP s).1=s:=by
 unfold numP at h ⊢
 cases hp:parseIntB 64 s with
 | ok v =>
  rw [hp] at h
  dsimp only at h ⊢
  by_cases he:itoaE v=s
  ·rw [if_pos he];exact he
  ·rw [if_neg he] at h;cases h
 | range=>rw [hp] at h;cases h
 | _=>rw [hp] at h;cases h
theorem num_bd {t r:List UInt8} {v:Int} (h:numL t=some (v,r)):0≤v∧v≤20:=by
 unfold numL at h
 split at h
 ·rename_i hc
  injection h with h
  injection h with h _
  rw [h] at hc
  refine ⟨?_,hc.2⟩
  rcases Int.lt_or_le v 0 with hv | hv
  ·exfalso
   have h1:(numP (t.takeWhile isDig)).2=true:=hc.1
   have h2:(numP (t.takeWhile isDig)).1=v:=h
   have he:=numP_true h1
   rw [h2] at he
   have h3:itoaE v=45::dDig 20 v.natAbs:=by unfold itoaE;rw [decide_eq_true hv];rfl
   rw [h3] at he
   have h4:∀ c ∈ t.takeWhile isDig,isDig c=true:=fun c hc=>List.all_eq_true.1 List.all_takeWhile c hc
   rw [← he] at h4
   exact absurd (h4 45 (by simp)) (by decide)
  ·exact hv
 ·cases h
def NormE (n:Node):Prop:=∃ d,Norm d n
theorem list_norm:∀ {l:List Node},(∀ n ∈ l,NormE n)→∃ d,∀ n ∈ l,Norm d n
 | [],_=>⟨0,fun n h=>by cases h⟩
 | n::l,h=>by
  obtain ⟨d,hd⟩:=list_norm (l:=l) fun q hq=>h q (by simp [hq])
  obtain ⟨e,he⟩:=h n (by simp)
  refine ⟨max d e,fun q hq => ?_⟩
  rcases List.mem_cons.1 hq with rfl | hq
  ·exact he.mono (by omega)
  ·exact (hd q hq).mono (by omega)
theorem NormE.mk {n:Node} (h:Shape n) (hk:∀ k ∈ n.kids,NormE k):NormE n:=by
 obtain ⟨d,hd⟩:=list_norm hk
 exact ⟨d + 1,h,hd⟩
theorem NormE.kid {n k:Node} (h:NormE n) (hk:k ∈ n.kids):NormE k:=by
 obtain ⟨d,hd⟩:=h
 cases d with
 | zero=>exact hd.elim
 | succ d=>exact ⟨d,hd.2 k hk⟩
theorem NormE.shape {n:Node} (h:NormE n):Shape n:=by
 obtain ⟨d,hd⟩:=h
 cases d with
 | zero=>exact hd.elim
 | succ d=>exact hd.1
theorem one_norm {s:W4} (h:s≠W4.zero):NormE (.one s) := .mk (.one s h) (fun k hk=>by cases hk)
theorem esc_ne {t r:List UInt8} {x:W4} (h:escL t=some (x,r)):x≠W4.zero:=by
 unfold escL at h
 split at h
 ·cases h
 ·split at h
  ·cases h
  ·rename_i hz;cases h;exact hz
theorem class_ne {t r:List UInt8} {x:W4} (h:classL t=some (x,r)):x≠W4.zero:=by
 unfold classL at h
 split at h
 ·cases h
 ·split at h
  ·split at h
   ·cases h
   ·rename_i hz;cases h;exact hz
  ·split at h
   ·cases h
   ·rename_i hz;cases h;exact hz
theorem empty_norm:NormE (.mk 0 W4.zero 0 0 []) := .mk .empty (fun k hk=>by cases hk)
def NormR (rec:List UInt8→RL):Prop:=∀ t n r,rec t=some (n,r)→NormE n
theorem atom_norm {rec:List UInt8→RL} (hr:NormR rec) {t:List UInt8} {n:Node} {r:List UInt8} (h:atomL rec t=some (n,r)):NormE n:=by
 unfold atomL at h
 split at h
 ·cases h
 ·split at h
  ·split at h
   ·cases h
   ·rename_i n' t' hc
    split at h
    ·cases h;exact hr _ _ _ hc
    ·cases h
  split at h
  ·cases h;exact one_norm (by decide +kernel)
  split at h
  ·cases h;exact .mk .beg (fun k hk=>by cases hk)
  split at h
  ·cases h;exact .mk .fin (fun k hk=>by cases hk)
  split at h
  ·split at h
   ·cases h
   ·rename_i x t' he;cases h;exact one_norm (esc_ne he)
  split at h
  ·split at h
   ·cases h
   ·rename_i x t' he;cases h;exact one_norm (class_ne he)
  split at h
  ·cases h
  ·cases h;exact one_norm (with_ne (Nat.le_refl _))
theorem brc_bd {t r:List UInt8} {a b:Int} (h:brcL t=some (a,b,r)):0≤a∧a≤20∧(b = -1∨a≤b∧b≤20):=by
 unfold brcL at h
 split at h
 ·cases h
 ·rename_i v t1 hm
  have h1:=num_bd hm
  split at h
  ·cases h;exact ⟨h1.1,h1.2, .inr ⟨by omega,h1.2⟩⟩
  split at h
  ·split at h
   ·cases h;exact ⟨h1.1,h1.2, .inl rfl⟩
   ·split at h
    ·cases h
    ·rename_i v2 t2 hm2
     have h3:=num_bd hm2
     split at h
     ·rename_i hc;cases h;exact ⟨h1.1,h1.2, .inr ⟨hc.2,h3.2⟩⟩
     ·cases h
  ·cases h
theorem rep_norm {n:Node} {a b:Int} (hn:NormE n) (h0:0≤a) (h1:a≤20) (h2:b = -1∨a≤b∧b≤20):NormE (.mk 6 W4.zero a b [n]) := .mk (.rep a b n h0 h1 h2) (fun k hk=>by
 have:k=n:=by simpa [Node.kids] using hk
 rw [this];exact hn)
theorem times_norm {m n:Node} (hm:NormE m) {t r:List UInt8} (h:timesL m t=some (n,r)):NormE n:=by
 unfold timesL at h
 split at h
 ·cases h;exact rep_norm hm (by omega) (by omega) (.inl rfl)
 split at h
 ·cases h;exact rep_norm hm (by omega) (by omega) (.inl rfl)
 split at h
 ·cases h;exact rep_norm hm (by omega) (by omega) (.inr (by omega))
 split at h
 ·split at h
  ·cases h
  ·rename_i lo hi t' hb
   cases h
   obtain ⟨g1,g2,g3⟩:=brc_bd hb
   exact rep_norm hm g1 g2 g3
 ·cases h;exact hm
theorem piece_norm {rec:List UInt8→RL} (hr:NormR rec) {t:List UInt8} {n:Node} {r:List UInt8} (h:pieceL rec t=some (n,r)):NormE n:=by
 unfold pieceL at h
 split at h
 ·cases h
 ·rename_i m t' ha
  exact times_norm (atom_norm hr ha) h
theorem flat_norm {kd:Int} {l:List Node} (h:∀ n ∈ l,NormE n):∀ n ∈ flatF kd l,NormE n:=by
 induction l with
 | nil=>intro n hn;cases hn
 | cons q l ih =>
  intro n hn
  simp only [flatF] at hn
  rcases List.mem_append.1 hn with hn | hn
  ·split at hn
   ·exact (h q (by simp)).kid hn
   ·have:n=q:=by simpa using hn
    rw [this];exact h q (by simp)
  ·exact ih (fun x hx=>h x (by simp [hx])) n hn
theorem flat_kind {kd:Int} {l:List Node} (hk:kd=4∨kd=5) (h:∀ n ∈ l,NormE n):∀ n ∈ flatF kd l,n.kind≠kd:=by
 induction l with
 | nil=>intro n hn;cases hn
 | cons q l ih =>
  intro n hn
  simp only [flatF] at hn
  rcases List.mem_append.1 hn with h1 | h1
  ·split at h1
   ·rename_i hq
    have hs:=(h q (by simp)).shape
    rcases hk with rfl | rfl
    ·cases hs with
     | cat l' _ hkk=>exact (hkk n h1).2
     | _=>simp [Node.kind] at hq
    ·cases hs with
     | alt l' _ hkk=>exact hkk n h1
     | _=>simp [Node.kind] at hq
   ·rename_i hq
    have:n=q:=by simpa using h1
    rw [this];exact hq
  ·exact ih (fun x hx=>h x (by simp [hx])) n h1
theorem full_mem {l:List Node} {n:Node} (h:n ∈ full l):n ∈ l∧n.kind≠0:=by
 unfold full at h
 rw [List.mem_filter] at h
 exact ⟨h.1,by simpa using h.2⟩
theorem cat_norm {l:List Node} (h:∀ n ∈ l,NormE n):NormE (catF l):=by
 have h1:∀ n ∈ full (flatF 4 l),NormE n∧n.kind≠0∧n.kind≠4:=fun n hn=>⟨flat_norm h n (full_mem hn).1,(full_mem hn).2,flat_kind (.inl rfl) h n (full_mem hn).1⟩
 unfold catF
 generalize full (flatF 4 l)=f at *
 match f with
 | []=>exact empty_norm
 | [n]=>exact (h1 n (by simp)).1
 | x::y::f=>exact .mk (.cat (x::y::f) (by simp) fun k hk=>(h1 k hk).2) fun k hk=>(h1 k hk).1
theorem end_norm {l:List Node} (hl:l≠[]) (h:∀ n ∈ l,NormE n) (hk:∀ n ∈ flatF 5 l,True):NormE (endF l)∨(flatF 5 l).length < 2:=by
 unfold endF
 split
 ·exact .inl (h _ (by simp))
 ·rename_i l' hl'
  by_cases h2:2≤(flatF 5 l).length
  ·exact .inl (.mk (.alt _ h2 fun k hk=>flat_kind (.inr rfl) h k hk) fun k hk=>flat_norm h k hk)
  ·exact .inr (by omega)
theorem flat_len {kd:Int} (hk:kd=5):∀ {l:List Node},(∀ n ∈ l,NormE n)→l.length≤(flatF kd l).length
 | [],_=>by simp
 | n::l,h=>by
  have ih:=flat_len hk (l:=l) fun q hq=>h q (by simp [hq])
  simp only [flatF,List.length_append,List.length_cons]
  have:1≤(if n.kind=kd then n.kids else [n]).length:=by
   split
   ·rename_i hn
    have hs:=(h n (by simp)).shape
    subst hk
    cases hs with
    | alt l' hl _=>simp only [Node.kids];omega
    | _=>simp [Node.kind] at hn
   ·simp
  omega
theorem endF_norm {l:List Node} (hl:l≠[]) (h:∀ n ∈ l,NormE n):NormE (endF l):=by
 match l,hl with
 | [n],_=>exact h n (by simp)
 | a::b::l,_ =>
  rcases end_norm (l:=a::b::l) (by simp) h (fun _ _=>trivial) with h1 | h1
  ·exact h1
  ·have:=flat_len (kd:=5) rfl h
   simp at this;omega
theorem loop_norm {rec:List UInt8→RL} (hr:NormR rec):∀ (f:Nat) (A O:List Node) (t:List UInt8) (A' O':List Node) (r:List UInt8),(∀ n ∈ A,NormE n)→(∀ n ∈ O,NormE n)→loopL rec f A O t=some (A',O',r)→(∀ n ∈ A',NormE n)∧∀ n ∈ O',NormE n
 | 0,_,_,_,_,_,_,_,_,h=>by simp [loopL] at h
 | f + 1,A,O,t,A',O',r,hA,hO,h=>by
  unfold loopL at h
  split at h
  ·cases h;exact ⟨hA,hO⟩
  split at h
  ·exact loop_norm hr f _ _ _ _ _ _ (fun n hn=>by
    rcases List.mem_append.1 hn with hn | hn
    ·exact hA n hn
    ·have:n=catF O:=by simpa using hn
     rw [this];exact cat_norm hO) (fun n hn=>by cases hn) h
  split at h
  ·cases h
  ·rename_i n t' hp
   exact loop_norm hr f _ _ _ _ _ _ hA (fun q hq=>by
    rcases List.mem_append.1 hq with hq | hq
    ·exact hO q hq
    ·have:q=n:=by simpa using hq
     rw [this];exact piece_norm hr hp) h
theorem alt_norm:∀ f,NormR (altL f)
 | 0=>fun t n r h=>by simp [altL] at h
 | f + 1=>fun t n r h=>by
  unfold altL at h
  split at h
  ·cases h
  ·rename_i A O t' hl
   cases h
   obtain ⟨h1,h2⟩:=loop_norm (alt_norm f) _ _ _ _ _ _ _ (fun n hn=>by cases hn) (fun n hn=>by cases hn) hl
   exact endF_norm (by simp) fun n hn=>by
    rcases List.mem_append.1 hn with hn | hn
    ·exact h1 n hn
    ·have:n=catF O:=by simpa using hn
     rw [this];exact cat_norm h2
theorem rdA_norm:NormR rdA:=fun _ n r h=>alt_norm _ _ n r h
theorem Norm.of_dep:∀ {d e:Nat} {n:Node},Norm e n→Dep d n→Norm d n
 | 0,_,_,_,h=>h.elim
 | d + 1,0,_,h,_=>h.elim
 | d + 1,e + 1,_,h,hd=>⟨h.1,fun k hk=>Norm.of_dep (h.2 k hk) (hd k hk)⟩
end Go.Proofs.YtanopbolgfcojaaGreatDoor.E.SZ
