/- Steps of the seat's proofs: an evaluator of the program's code, its soundness, and what the functions come to. -/
import Derived.Test.YtanopbolgfcojaaGreatDoorEaj
set_option linter.unusedSimpArgs false
set_option linter.unusedVariables false
namespace Go.Proofs.YtanopbolgfcojaaGreatDoor.E.SZ
open Go Go.Proofs E E.R
abbrev nnSt (pl:Bool) (l:AV) (n:Nat) (s:List UInt8) (i:Nat):List TV:=[J, .v (.bool pl), .v l,J,J,J,J, .v (.bool true), .v (AI (1 + (n:Int))), .v (.str s), .v (AI i)]++List.replicate 94 J
abbrev nnEnd (pl:Bool) (l:AV) (n:Nat) (s:List UInt8):List TV:=[J, .v (.bool pl), .v l,J,J,J,J, .v (.bool true), .v (AI (1 + (n:Int))), .v (.str s)]++List.replicate 95 J
theorem nn_i0 {m:Int} {fl n i:Nat} {hp:List Blk} {l:AV} {s:List UInt8} (hi:i < n + 1) (hn:n < 60) (hs:s.length < 1000):LoopS (cfg m) fl 8 (bodyAt (cfg m) 8 7) 7 ⟨nnSt false l n s i,hp⟩ ⟨nnSt false l n ([40]++s++[41,42]) (i + 1),hp⟩:=by
 exact loopStepS (St.mk ([J,TV.v (AV.bool false),TV.v l,J,J,J,J,TV.v (AV.bool true),TV.v (AI (1 + (↑n:Int))),TV.v (AV.str ([40]++s++[41,42])),TV.v (AI ((↑i:Int) + 1))]++Jn 94) hp) [.b 7 2 (decide_eq_true ((show (↑i:Int) < 1 + (↑n:Int) from (by omega)))), .v 11 1 (strOp_add (x:=[40]) (y:=s) (by simp only [setAt_length,List.length_append,List.length_cons,List.length_nil,List.length_map] at *;omega)), .v 11 2 (strOp_add (x:=[40]++s) (y:=[41,42]) (by simp only [setAt_length,List.length_append,List.length_cons,List.length_nil,List.length_map] at *;omega)), .w 8 1 IntKind.i64 ((↑i:Int) + 1) (wrap_i64' (by omega))] (by kernel_rfl) rfl
theorem nn_i1 {m:Int} {fl n i:Nat} {hp:List Blk} {l:AV} {s:List UInt8} (hi:i < n + 1) (hn:n < 60) (hs:s.length < 1000):LoopS (cfg m) fl 8 (bodyAt (cfg m) 8 7) 7 ⟨nnSt true l n s i,hp⟩ ⟨nnSt true l n ([40]++s++[41,43]) (i + 1),hp⟩:=by
 exact loopStepS (St.mk ([J,TV.v (AV.bool true),TV.v l,J,J,J,J,TV.v (AV.bool true),TV.v (AI (1 + (↑n:Int))),TV.v (AV.str ([40]++s++[41,43])),TV.v (AI ((↑i:Int) + 1))]++Jn 94) hp) [.b 7 2 (decide_eq_true ((show (↑i:Int) < 1 + (↑n:Int) from (by omega)))), .v 10 1 (strOp_add (x:=[40]) (y:=s) (by simp only [setAt_length,List.length_append,List.length_cons,List.length_nil,List.length_map] at *;omega)), .v 10 2 (strOp_add (x:=[40]++s) (y:=[41,43]) (by simp only [setAt_length,List.length_append,List.length_cons,List.length_nil,List.length_map] at *;omega)), .w 8 1 IntKind.i64 ((↑i:Int) + 1) (wrap_i64' (by omega))] (by kernel_rfl) rfl
theorem nn_x {m:Int} {fl n i:Nat} {pl:Bool} {hp:List Blk} {l:AV} {s:List UInt8} (hi:n + 1≤i) (hn:i < 62):LoopI (cfg m) fl 8 (bodyAt (cfg m) 8 7) 7 ⟨nnSt pl l n s i,hp⟩ (.exit 0) ⟨nnEnd pl l n s,hp⟩:=by
 exact loopEndC (.exit 0) (St.mk ([J,TV.v (AV.bool pl),TV.v l,J,J,J,J,TV.v (AV.bool true),TV.v (AI (1 + (↑n:Int))),TV.v (AV.str s)]++Jn 95) hp) [.b 7 2 (decide_eq_false ((show ¬(↑i:Int) < 1 + (↑n:Int) from (by omega))))] (by kernel_rfl) (fun h=>by cases h) rfl
abbrev nkSt (pl:Bool) (n:Nat) (t:List UInt8) (al an:Bool) (i:Nat):List TV:=[J, .v (.bool pl),J,J,J,J,J, .v (.bool true), .v (AI (1 + (n:Int))),J,J, .v (.str t), .v (.ptr 0 0),J,J, .v (.bool al), .v (.bool an), .v (AI i)]++List.replicate 87 J
abbrev nkEnd (pl:Bool) (n:Nat) (t:List UInt8) (al an:Bool):List TV:=[J, .v (.bool pl),J,J,J,J,J, .v (.bool true), .v (AI (1 + (n:Int))),J,J, .v (.str t), .v (.ptr 0 0),J,J, .v (.bool al), .v (.bool an)]++List.replicate 88 J
theorem nk_tt1 {m:Int} {fl n i:Nat} {pl:Bool} {hp:List Blk} {t:List UInt8} (hi:i < t.length) (ht:t.length≤24) (hq:gb t i=97):LoopS (cfg m) fl 8 (bodyAt (cfg m) 8 19) 19 ⟨nkSt pl n t true true i,hp⟩ ⟨nkSt pl n t true true (i + 1),hp⟩:=by
 exact loopStepS (St.mk [J,TV.v (AV.bool pl),J,J,J,J,J,TV.v (AV.bool true),TV.v (AI (1 + (↑n:Int))),J,J,TV.v (AV.str t),TV.v (AV.ptr 0 0),J,J,TV.v (AV.bool true),TV.v (AV.bool true),TV.v (AI ((↑i:Int) + 1)),J,J,J,J,J,J,J,J,J,J,J,J,J,J,J,J,J,J,J,J,J,J,J,J,J,J,J,J,J,J,J,J,J,J,J,J,J,J,J,J,J,J,J,J,J,J,J,J,J,J,J,J,J,J,J,J,J,J,J,J,J,J,J,J,J,J,J,J,J,J,J,J,J,J,J,J,J,J,J,J,J,J,J,J,J,J,J] hp) [.b 19 3 (decide_eq_true ((show (↑i:Int) < (↑t.length:Int) from (by omega)))), .v 21 4 (index_gb (C:=cfg m) (t:=9) (s:=t) (n:=(↑i:Int)) (by kernel_rfl) (by omega) (by omega)), .b 21 5 (beqUL 97 rfl hq), .w 20 1 IntKind.i64 ((↑i:Int) + 1) (wrap_i64' (by omega))] (by kernel_rfl) rfl
theorem nk_tt0 {m:Int} {fl n i:Nat} {pl:Bool} {hp:List Blk} {t:List UInt8} (hi:i < t.length) (ht:t.length≤24) (hq:¬ gb t i=97):LoopS (cfg m) fl 8 (bodyAt (cfg m) 8 19) 19 ⟨nkSt pl n t true true i,hp⟩ ⟨nkSt pl n t false true (i + 1),hp⟩:=by
 exact loopStepS (St.mk [J,TV.v (AV.bool pl),J,J,J,J,J,TV.v (AV.bool true),TV.v (AI (1 + (↑n:Int))),J,J,TV.v (AV.str t),TV.v (AV.ptr 0 0),J,J,TV.v (AV.bool false),TV.v (AV.bool true),TV.v (AI ((↑i:Int) + 1)),J,J,J,J,J,J,J,J,J,J,J,J,J,J,J,J,J,J,J,J,J,J,J,J,J,J,J,J,J,J,J,J,J,J,J,J,J,J,J,J,J,J,J,J,J,J,J,J,J,J,J,J,J,J,J,J,J,J,J,J,J,J,J,J,J,J,J,J,J,J,J,J,J,J,J,J,J,J,J,J,J,J,J,J,J,J,J] hp) [.b 19 3 (decide_eq_true ((show (↑i:Int) < (↑t.length:Int) from (by omega)))), .v 21 4 (index_gb (C:=cfg m) (t:=9) (s:=t) (n:=(↑i:Int)) (by kernel_rfl) (by omega) (by omega)), .b 21 5 (bneUL 97 rfl hq), .w 20 1 IntKind.i64 ((↑i:Int) + 1) (wrap_i64' (by omega))] (by kernel_rfl) rfl
theorem nk_tf1 {m:Int} {fl n i:Nat} {pl:Bool} {hp:List Blk} {t:List UInt8} (hi:i < t.length) (ht:t.length≤24) (hq:gb t i=97):LoopS (cfg m) fl 8 (bodyAt (cfg m) 8 19) 19 ⟨nkSt pl n t true false i,hp⟩ ⟨nkSt pl n t true true (i + 1),hp⟩:=by
 exact loopStepS (St.mk [J,TV.v (AV.bool pl),J,J,J,J,J,TV.v (AV.bool true),TV.v (AI (1 + (↑n:Int))),J,J,TV.v (AV.str t),TV.v (AV.ptr 0 0),J,J,TV.v (AV.bool true),TV.v (AV.bool true),TV.v (AI ((↑i:Int) + 1)),J,J,J,J,J,J,J,J,J,J,J,J,J,J,J,J,J,J,J,J,J,J,J,J,J,J,J,J,J,J,J,J,J,J,J,J,J,J,J,J,J,J,J,J,J,J,J,J,J,J,J,J,J,J,J,J,J,J,J,J,J,J,J,J,J,J,J,J,J,J,J,J,J,J,J,J,J,J,J,J,J,J,J,J,J,J,J] hp) [.b 19 3 (decide_eq_true ((show (↑i:Int) < (↑t.length:Int) from (by omega)))), .v 21 4 (index_gb (C:=cfg m) (t:=9) (s:=t) (n:=(↑i:Int)) (by kernel_rfl) (by omega) (by omega)), .b 21 5 (beqUL 97 rfl hq), .v 22 4 (index_gb (C:=cfg m) (t:=9) (s:=t) (n:=(↑i:Int)) (by kernel_rfl) (by omega) (by omega)), .b 22 5 (beqUL 97 rfl hq), .w 20 1 IntKind.i64 ((↑i:Int) + 1) (wrap_i64' (by omega))] (by kernel_rfl) rfl
theorem nk_tf0 {m:Int} {fl n i:Nat} {pl:Bool} {hp:List Blk} {t:List UInt8} (hi:i < t.length) (ht:t.length≤24) (hq:¬ gb t i=97):LoopS (cfg m) fl 8 (bodyAt (cfg m) 8 19) 19 ⟨nkSt pl n t true false i,hp⟩ ⟨nkSt pl n t false false (i + 1),hp⟩:=by
 exact loopStepS (St.mk [J,TV.v (AV.bool pl),J,J,J,J,J,TV.v (AV.bool true),TV.v (AI (1 + (↑n:Int))),J,J,TV.v (AV.str t),TV.v (AV.ptr 0 0),J,J,TV.v (AV.bool false),TV.v (AV.bool false),TV.v (AI ((↑i:Int) + 1)),J,J,J,J,J,J,J,J,J,J,J,J,J,J,J,J,J,J,J,J,J,J,J,J,J,J,J,J,J,J,J,J,J,J,J,J,J,J,J,J,J,J,J,J,J,J,J,J,J,J,J,J,J,J,J,J,J,J,J,J,J,J,J,J,J,J,J,J,J,J,J,J,J,J,J,J,J,J,J,J,J,J,J,J,J,J,J] hp) [.b 19 3 (decide_eq_true ((show (↑i:Int) < (↑t.length:Int) from (by omega)))), .v 21 4 (index_gb (C:=cfg m) (t:=9) (s:=t) (n:=(↑i:Int)) (by kernel_rfl) (by omega) (by omega)), .b 21 5 (bneUL 97 rfl hq), .v 22 4 (index_gb (C:=cfg m) (t:=9) (s:=t) (n:=(↑i:Int)) (by kernel_rfl) (by omega) (by omega)), .b 22 5 (bneUL 97 rfl hq), .w 20 1 IntKind.i64 ((↑i:Int) + 1) (wrap_i64' (by omega))] (by kernel_rfl) rfl
theorem nk_ft1 {m:Int} {fl n i:Nat} {pl:Bool} {hp:List Blk} {t:List UInt8} (hi:i < t.length) (ht:t.length≤24) (hq:gb t i=97):LoopS (cfg m) fl 8 (bodyAt (cfg m) 8 19) 19 ⟨nkSt pl n t false true i,hp⟩ ⟨nkSt pl n t false true (i + 1),hp⟩:=by
 exact loopStepS (St.mk ([J,TV.v (AV.bool pl),J,J,J,J,J,TV.v (AV.bool true),TV.v (AI (1 + (↑n:Int))),J,J,TV.v (AV.str t),TV.v (AV.ptr 0 0),J,J,TV.v (AV.bool false),TV.v (AV.bool true),TV.v (AI ((↑i:Int) + 1))]++Jn 87) hp) [.b 19 3 (decide_eq_true ((show (↑i:Int) < (↑t.length:Int) from (by omega)))), .w 20 1 IntKind.i64 ((↑i:Int) + 1) (wrap_i64' (by omega))] (by kernel_rfl) rfl
theorem nk_ft0 {m:Int} {fl n i:Nat} {pl:Bool} {hp:List Blk} {t:List UInt8} (hi:i < t.length) (ht:t.length≤24) (hq:¬ gb t i=97):LoopS (cfg m) fl 8 (bodyAt (cfg m) 8 19) 19 ⟨nkSt pl n t false true i,hp⟩ ⟨nkSt pl n t false true (i + 1),hp⟩:=by
 exact loopStepS (St.mk ([J,TV.v (AV.bool pl),J,J,J,J,J,TV.v (AV.bool true),TV.v (AI (1 + (↑n:Int))),J,J,TV.v (AV.str t),TV.v (AV.ptr 0 0),J,J,TV.v (AV.bool false),TV.v (AV.bool true),TV.v (AI ((↑i:Int) + 1))]++Jn 87) hp) [.b 19 3 (decide_eq_true ((show (↑i:Int) < (↑t.length:Int) from (by omega)))), .w 20 1 IntKind.i64 ((↑i:Int) + 1) (wrap_i64' (by omega))] (by kernel_rfl) rfl
theorem nk_ff1 {m:Int} {fl n i:Nat} {pl:Bool} {hp:List Blk} {t:List UInt8} (hi:i < t.length) (ht:t.length≤24) (hq:gb t i=97):LoopS (cfg m) fl 8 (bodyAt (cfg m) 8 19) 19 ⟨nkSt pl n t false false i,hp⟩ ⟨nkSt pl n t false true (i + 1),hp⟩:=by
 exact loopStepS (St.mk [J,TV.v (AV.bool pl),J,J,J,J,J,TV.v (AV.bool true),TV.v (AI (1 + (↑n:Int))),J,J,TV.v (AV.str t),TV.v (AV.ptr 0 0),J,J,TV.v (AV.bool false),TV.v (AV.bool true),TV.v (AI ((↑i:Int) + 1)),J,J,J,J,J,J,J,J,J,J,J,J,J,J,J,J,J,J,J,J,J,J,J,J,J,J,J,J,J,J,J,J,J,J,J,J,J,J,J,J,J,J,J,J,J,J,J,J,J,J,J,J,J,J,J,J,J,J,J,J,J,J,J,J,J,J,J,J,J,J,J,J,J,J,J,J,J,J,J,J,J,J,J,J,J,J,J] hp) [.b 19 3 (decide_eq_true ((show (↑i:Int) < (↑t.length:Int) from (by omega)))), .v 22 4 (index_gb (C:=cfg m) (t:=9) (s:=t) (n:=(↑i:Int)) (by kernel_rfl) (by omega) (by omega)), .b 22 5 (beqUL 97 rfl hq), .w 20 1 IntKind.i64 ((↑i:Int) + 1) (wrap_i64' (by omega))] (by kernel_rfl) rfl
theorem nk_ff0 {m:Int} {fl n i:Nat} {pl:Bool} {hp:List Blk} {t:List UInt8} (hi:i < t.length) (ht:t.length≤24) (hq:¬ gb t i=97):LoopS (cfg m) fl 8 (bodyAt (cfg m) 8 19) 19 ⟨nkSt pl n t false false i,hp⟩ ⟨nkSt pl n t false false (i + 1),hp⟩:=by
 exact loopStepS (St.mk [J,TV.v (AV.bool pl),J,J,J,J,J,TV.v (AV.bool true),TV.v (AI (1 + (↑n:Int))),J,J,TV.v (AV.str t),TV.v (AV.ptr 0 0),J,J,TV.v (AV.bool false),TV.v (AV.bool false),TV.v (AI ((↑i:Int) + 1)),J,J,J,J,J,J,J,J,J,J,J,J,J,J,J,J,J,J,J,J,J,J,J,J,J,J,J,J,J,J,J,J,J,J,J,J,J,J,J,J,J,J,J,J,J,J,J,J,J,J,J,J,J,J,J,J,J,J,J,J,J,J,J,J,J,J,J,J,J,J,J,J,J,J,J,J,J,J,J,J,J,J,J,J,J,J,J] hp) [.b 19 3 (decide_eq_true ((show (↑i:Int) < (↑t.length:Int) from (by omega)))), .v 22 4 (index_gb (C:=cfg m) (t:=9) (s:=t) (n:=(↑i:Int)) (by kernel_rfl) (by omega) (by omega)), .b 22 5 (bneUL 97 rfl hq), .w 20 1 IntKind.i64 ((↑i:Int) + 1) (wrap_i64' (by omega))] (by kernel_rfl) rfl
theorem nk_x {m:Int} {fl n i:Nat} {pl al an:Bool} {hp:List Blk} {t:List UInt8} (hi:t.length≤i) (ht:i≤24):LoopI (cfg m) fl 8 (bodyAt (cfg m) 8 19) 19 ⟨nkSt pl n t al an i,hp⟩ (.exit 2) ⟨nkEnd pl n t al an,hp⟩:=by
 exact loopEndC (.exit 2) (St.mk ([J,TV.v (AV.bool pl),J,J,J,J,J,TV.v (AV.bool true),TV.v (AI (1 + (↑n:Int))),J,J,TV.v (AV.str t),TV.v (AV.ptr 0 0),J,J,TV.v (AV.bool al),TV.v (AV.bool an)]++Jn 88) hp) [.b 19 3 (decide_eq_false ((show ¬(↑i:Int) < (↑t.length:Int) from (by omega))))] (by kernel_rfl) (fun h=>by cases h) rfl
theorem nn_0 {m:Int} {deep:Int} {al an:Bool} {l:AV} {n:Nat} {t s:List UInt8} {g1:List Blk} {p1:Int} (hex:evI (cfg m) 0 9 [] []=some (.bool true,[])) (ha:Int.tmod deep 60=(n:Int)) (ha2:n < 60) (hf:evI (cfg m) 0 11 [l] []=some (.str t,[])) (hlp:LoopI (cfg m) 0 8 (bodyAt (cfg m) 8 7) 7 ⟨nnSt false l n [97] 0,[]⟩ (.exit 0) ⟨nnEnd false l n s,[]⟩) (o1:evI (cfg m) 0 12 [.str s] []=some (.tup [.ptr 0 0, .int .i64 p1, .int .i64 0],g1)) (hl2:LoopI (cfg m) 0 8 (bodyAt (cfg m) 8 19) 19 ⟨nkSt false n t true false 0,g1⟩ (.exit 2) ⟨nkEnd false n t al an,g1⟩) (w1:evI (cfg m) 0 13 [.ptr 0 0, .str t] g1=some (.bool (al),g1)) (w2:evI (cfg m) 0 14 [.ptr 0 0, .str t] g1=some (.bool (true),g1)) (w3:evI (cfg m) 0 17 [.ptr 0 0] g1=some (.int .i64 (1 + (n:Int) + 1),g1)):evI (cfg m) 0 8 [.int .u8 deep, .bool false,l] []=some (.bool true,[]):=by
 rcases bcases (al) with h1 | h1
 ·exact evX (AV.bool true) (g1) [.c 1 0 hex, .w 4 1 IntKind.u8 ((↑n:Int)) ha, .wc 4 2 IntKind.i64 ((↑n:Int)) ([]) (wrap_i64' (by omega)), .w 4 3 IntKind.i64 (1 + (↑n:Int)) (wrap_i64' (by omega)), .l 7 hlp, .c 12 1 hf, .c 13 1 o1, .l 19 hl2, .cb 23 4 w1 h1, .b 23 5 h1, .c 23 19 w2, .c 23 29 w3, .w 23 31 IntKind.i64 (1 + (↑n:Int) + 1) (wrap_i64' (by omega)), .b 23 32 (beq_iff_eq.2 ((show 1 + (↑n:Int) + 1=1 + (↑n:Int) + 1 from rfl)))] (by kernel_rfl) (tlP (by kernel_rfl) rfl (shutT (v:=AV.bool true) (v':=AV.bool true) (by kernel_rfl))) rfl
 ·exact evX (AV.bool true) (g1) [.c 1 0 hex, .w 4 1 IntKind.u8 ((↑n:Int)) ha, .wc 4 2 IntKind.i64 ((↑n:Int)) ([]) (wrap_i64' (by omega)), .w 4 3 IntKind.i64 (1 + (↑n:Int)) (wrap_i64' (by omega)), .l 7 hlp, .c 12 1 hf, .c 13 1 o1, .l 19 hl2, .cb 23 4 w1 h1, .b 23 5 h1, .c 23 19 w2, .c 23 29 w3, .w 23 31 IntKind.i64 (1 + (↑n:Int) + 1) (wrap_i64' (by omega)), .b 23 32 (beq_iff_eq.2 ((show 1 + (↑n:Int) + 1=1 + (↑n:Int) + 1 from rfl)))] (by kernel_rfl) (tlP (by kernel_rfl) rfl (shutT (v:=AV.bool true) (v':=AV.bool true) (by kernel_rfl))) rfl
theorem nn_1a {m:Int} {deep:Int} {an:Bool} {l:AV} {n:Nat} {t s:List UInt8} {g1:List Blk} {p1:Int} (hex:evI (cfg m) 0 9 [] []=some (.bool true,[])) (ha:Int.tmod deep 60=(n:Int)) (ha2:n < 60) (hf:evI (cfg m) 0 11 [l] []=some (.str t,[])) (hlp:LoopI (cfg m) 0 8 (bodyAt (cfg m) 8 7) 7 ⟨nnSt true l n [97] 0,[]⟩ (.exit 0) ⟨nnEnd true l n s,[]⟩) (o1:evI (cfg m) 0 12 [.str s] []=some (.tup [.ptr 0 0, .int .i64 p1, .int .i64 0],g1)) (e:t=[]) (hl2:LoopI (cfg m) 0 8 (bodyAt (cfg m) 8 19) 19 ⟨nkSt true n t true false 0,g1⟩ (.exit 2) ⟨nkEnd true n t true false,g1⟩) (w1:evI (cfg m) 0 13 [.ptr 0 0, .str t] g1=some (.bool false,g1)) (w2:evI (cfg m) 0 14 [.ptr 0 0, .str t] g1=some (.bool false,g1)) (w3:evI (cfg m) 0 17 [.ptr 0 0] g1=some (.int .i64 (1 + (n:Int) + 1),g1)):evI (cfg m) 0 8 [.int .u8 deep, .bool true,l] []=some (.bool true,[]):=by
 exact evX (AV.bool true) (g1) [.c 1 0 hex, .w 4 1 IntKind.u8 ((↑n:Int)) ha, .wc 4 2 IntKind.i64 ((↑n:Int)) ([]) (wrap_i64' (by omega)), .w 4 3 IntKind.i64 (1 + (↑n:Int)) (wrap_i64' (by omega)), .l 7 hlp, .c 12 1 hf, .c 13 1 o1, .l 19 hl2, .c 23 4 w1, .b 23 11 (congrArg not (beq_iff_eq.2 (e))), .c 23 19 w2, .c 23 29 w3, .w 23 31 IntKind.i64 (1 + (↑n:Int) + 1) (wrap_i64' (by omega)), .b 23 32 (beq_iff_eq.2 ((show 1 + (↑n:Int) + 1=1 + (↑n:Int) + 1 from rfl)))] (by kernel_rfl) (tlP (by kernel_rfl) rfl (shutT (v:=AV.bool true) (v':=AV.bool true) (by kernel_rfl))) rfl
theorem nn_1b {m:Int} {deep:Int} {an:Bool} {l:AV} {n:Nat} {t s:List UInt8} {g1:List Blk} {p1:Int} (hex:evI (cfg m) 0 9 [] []=some (.bool true,[])) (ha:Int.tmod deep 60=(n:Int)) (ha2:n < 60) (hf:evI (cfg m) 0 11 [l] []=some (.str t,[])) (hlp:LoopI (cfg m) 0 8 (bodyAt (cfg m) 8 7) 7 ⟨nnSt true l n [97] 0,[]⟩ (.exit 0) ⟨nnEnd true l n s,[]⟩) (o1:evI (cfg m) 0 12 [.str s] []=some (.tup [.ptr 0 0, .int .i64 p1, .int .i64 0],g1)) (e:¬ t=[]) (hl2:LoopI (cfg m) 0 8 (bodyAt (cfg m) 8 19) 19 ⟨nkSt true n t true false 0,g1⟩ (.exit 2) ⟨nkEnd true n t true true,g1⟩) (w1:evI (cfg m) 0 13 [.ptr 0 0, .str t] g1=some (.bool true,g1)) (w2:evI (cfg m) 0 14 [.ptr 0 0, .str t] g1=some (.bool true,g1)) (w3:evI (cfg m) 0 17 [.ptr 0 0] g1=some (.int .i64 (1 + (n:Int) + 1),g1)):evI (cfg m) 0 8 [.int .u8 deep, .bool true,l] []=some (.bool true,[]):=by
 exact evX (AV.bool true) (g1) [.c 1 0 hex, .w 4 1 IntKind.u8 ((↑n:Int)) ha, .wc 4 2 IntKind.i64 ((↑n:Int)) ([]) (wrap_i64' (by omega)), .w 4 3 IntKind.i64 (1 + (↑n:Int)) (wrap_i64' (by omega)), .l 7 hlp, .c 12 1 hf, .c 13 1 o1, .l 19 hl2, .c 23 4 w1, .b 23 11 (congrArg not (beq_false_of_ne (e))), .c 23 19 w2, .c 23 29 w3, .w 23 31 IntKind.i64 (1 + (↑n:Int) + 1) (wrap_i64' (by omega)), .b 23 32 (beq_iff_eq.2 ((show 1 + (↑n:Int) + 1=1 + (↑n:Int) + 1 from rfl)))] (by kernel_rfl) (tlP (by kernel_rfl) rfl (shutT (v:=AV.bool true) (v':=AV.bool true) (by kernel_rfl))) rfl
theorem nn_1c {m:Int} {deep:Int} {an:Bool} {l:AV} {n:Nat} {t s:List UInt8} {g1:List Blk} {p1:Int} (hex:evI (cfg m) 0 9 [] []=some (.bool true,[])) (ha:Int.tmod deep 60=(n:Int)) (ha2:n < 60) (hf:evI (cfg m) 0 11 [l] []=some (.str t,[])) (hlp:LoopI (cfg m) 0 8 (bodyAt (cfg m) 8 7) 7 ⟨nnSt true l n [97] 0,[]⟩ (.exit 0) ⟨nnEnd true l n s,[]⟩) (o1:evI (cfg m) 0 12 [.str s] []=some (.tup [.ptr 0 0, .int .i64 p1, .int .i64 0],g1)) (hl2:LoopI (cfg m) 0 8 (bodyAt (cfg m) 8 19) 19 ⟨nkSt true n t true false 0,g1⟩ (.exit 2) ⟨nkEnd true n t false an,g1⟩) (w1:evI (cfg m) 0 13 [.ptr 0 0, .str t] g1=some (.bool false,g1)) (w2:evI (cfg m) 0 14 [.ptr 0 0, .str t] g1=some (.bool an,g1)) (w3:evI (cfg m) 0 17 [.ptr 0 0] g1=some (.int .i64 (1 + (n:Int) + 1),g1)):evI (cfg m) 0 8 [.int .u8 deep, .bool true,l] []=some (.bool true,[]):=by
 rcases bcases (an) with h1 | h1
 ·exact evX (AV.bool true) (g1) [.c 1 0 hex, .w 4 1 IntKind.u8 ((↑n:Int)) ha, .wc 4 2 IntKind.i64 ((↑n:Int)) ([]) (wrap_i64' (by omega)), .w 4 3 IntKind.i64 (1 + (↑n:Int)) (wrap_i64' (by omega)), .l 7 hlp, .c 12 1 hf, .c 13 1 o1, .l 19 hl2, .c 23 4 w1, .cb 23 19 w2 h1, .b 23 23 h1, .c 23 29 w3, .w 23 31 IntKind.i64 (1 + (↑n:Int) + 1) (wrap_i64' (by omega)), .b 23 32 (beq_iff_eq.2 ((show 1 + (↑n:Int) + 1=1 + (↑n:Int) + 1 from rfl)))] (by kernel_rfl) (tlP (by kernel_rfl) rfl (shutT (v:=AV.bool true) (v':=AV.bool true) (by kernel_rfl))) rfl
 ·exact evX (AV.bool true) (g1) [.c 1 0 hex, .w 4 1 IntKind.u8 ((↑n:Int)) ha, .wc 4 2 IntKind.i64 ((↑n:Int)) ([]) (wrap_i64' (by omega)), .w 4 3 IntKind.i64 (1 + (↑n:Int)) (wrap_i64' (by omega)), .l 7 hlp, .c 12 1 hf, .c 13 1 o1, .l 19 hl2, .c 23 4 w1, .cb 23 19 w2 h1, .b 23 23 h1, .c 23 29 w3, .w 23 31 IntKind.i64 (1 + (↑n:Int) + 1) (wrap_i64' (by omega)), .b 23 32 (beq_iff_eq.2 ((show 1 + (↑n:Int) + 1=1 + (↑n:Int) + 1 from rfl)))] (by kernel_rfl) (tlP (by kernel_rfl) rfl (shutT (v:=AV.bool true) (v':=AV.bool true) (by kernel_rfl))) rfl
end Go.Proofs.YtanopbolgfcojaaGreatDoor.E.SZ
namespace Go.Proofs.YtanopbolgfcojaaGreatDoor.E.SZ
open Go Go.Proofs E E.R E.SZ.N
def nestN (p:Bool):Nat→Node
 | 0=>oneB 97
 | k + 1 => .mk 6 W4.zero (bif p then 1 else 0) (-1) [nestN p k]
def nestT (p:Bool):Nat→List UInt8
 | 0=>[97]
 | k + 1=>brk (nestT p k)++[bif p then 43 else 42]
theorem nest_len (p:Bool):∀ k,(nestT p k).length=1 + 3 * k
 | 0=>rfl
 | k + 1=>by
  have:=nest_len p k
  simp only [nestT,brk,List.length_append,List.length_cons,List.length_nil,this]
  omega
theorem nest_norm (p:Bool):∀ k,NormE (nestN p k)
 | 0=>oneB_norm 97
 | k + 1 => .mk (.rep _ _ _ (by cases p <;> decide) (by cases p <;> decide) (.inl rfl)) fun q hq=>by
  have:q=nestN p k:=by simpa [nestN,Node.kids] using hq
  rw [this];exact nest_norm p k
theorem nest_size (p:Bool):∀ k:Nat,k≤1000→(nestN p k).size=k + 1
 | 0,_=>oneB_size 97
 | k + 1,h=>by
  have ih:=nest_size p k (by omega)
  show (Node.mk 6 W4.zero (bif p then 1 else 0) (-1) [nestN p k]).size=_
  rw [Node.size_eq]
  simp only [Node.kind,Node.mn,Node.mx,Node.kids,List.map_cons,List.map_nil,sizeV,List.headD_cons,ih]
  rw [if_neg (by omega),if_neg (by omega),if_neg (by omega),if_pos trivial,if_pos (by omega)]
  cases p
  ·show max (min (((k:Int) + 1) * max (max (min (0:Int) 1000000) 0) 1 + 1) 1000000) 0=_
   rw [show max (max (min (0:Int) 1000000) 0) 1=1 by decide,Int.mul_one]
   omega
  ·show max (min (((k:Int) + 1) * max (max (min (1:Int) 1000000) 0) 1 + 1) 1000000) 0=_
   rw [show max (max (min (1:Int) 1000000) 0) 1=1 by decide,Int.mul_one]
   omega
theorem rd_alone {c:UInt8} {t:List UInt8} {n:Node} (h1:c≠41) (h2:c≠124) (hk:n.kind≠0∧n.kind≠4) (h:rdP (c::t)=some (n,[])):rdA (c::t)=some (n,[]):=by
 rw [rdA_eq,rdO_eq,if_neg (by rintro (h | h);cases h;exact absurd h h1),if_neg (show ¬ (c::t).headD 0=124 from h2),h]
 show (match rdO [] [n] [] with | none=>none | some (A,O,t')=>some (endF (A++[catF O]),t'))=_
 rw [rdO_end (.inl rfl)]
 show some (catF [n],[])=_
 unfold catF
 rw [flat_self (by simpa using hk.2),full_self (by simpa using hk.1)]
theorem nest_kind (p:Bool) (k:Nat):(nestN p k).kind≠0∧(nestN p k).kind≠4:=by
 cases k with
 | zero=>exact ⟨by show (1:Int)≠0;decide,by show (1:Int)≠4;decide⟩
 | succ k=>exact ⟨by show (6:Int)≠0;decide,by show (6:Int)≠4;decide⟩
theorem nest_0:rdP [97]=some (oneB 97,[]):=by
 unfold rdP pieceL
 rw [show atomL rdA [97]=some (oneB 97,[]) from rfl]
 exact times_no rfl
theorem nest_s (p:Bool) (k:Nat):timesL (nestN p k) [bif p then 43 else 42]=some (nestN p (k + 1),[]):=by
 unfold timesL
 cases p
 ·rw [if_pos (show ([bif false then 43 else 42]:List UInt8).headD 0=42 from rfl)];rfl
 ·rw [if_neg (show ¬ ([bif true then 43 else 42]:List UInt8).headD 0=42 by decide),if_pos (show ([bif true then 43 else 42]:List UInt8).headD 0=43 from rfl)];rfl
theorem nest_rd (p:Bool):∀ k,rdA (nestT p k)=some (nestN p k,[])
 | 0=>rd_alone (n:=nestN p 0) (by decide) (by decide) (nest_kind p 0) nest_0
 | k + 1=>by
  have ih:=nest_rd p k
  have h:=rd_group ih (u:=[bif p then 43 else 42])
  have e:nestT p (k + 1)=40::(nestT p k++[41]++[bif p then 43 else 42]):=by simp [nestT,brk]
  have g:rdP (40::(nestT p k++[41]++[bif p then 43 else 42]))=some (nestN p (k + 1),[]):=by
   unfold rdP pieceL
   rw [show (40:UInt8)::(nestT p k++[41]++[bif p then 43 else 42])=brk (nestT p k)++[bif p then 43 else 42] by simp [brk],h]
   exact nest_s p k
  rw [e]
  exact rd_alone (by decide) (by decide) (nest_kind p (k + 1)) g
theorem times_rows {s:List UInt8} {P:PL} {m:Nat} (hP:∀ i j,P i j↔∃ c,m≤c∧At s (List.replicate c 97) i∧j=i + c):∀ {c i j:Nat},TimesL P c i j→∃ d,c * m≤d∧At s (List.replicate d 97) i∧j=i + d
 | 0,i,j,h=>by cases h;exact ⟨0,by omega,At.nil _ _,rfl⟩
 | c + 1,i,j,h=>by
  obtain ⟨k,h1,h2⟩:=h
  obtain ⟨x,g1,g2,rfl⟩:=(hP _ _).1 h1
  obtain ⟨y,g4,g5,rfl⟩:=times_rows hP h2
  refine ⟨x + y,by rw [Nat.add_mul];omega, ?_,by omega⟩
  have:=times_add (P:=LN s (oneB 97)) (a:=x) (b:=y) (i:=i) (j:=i + x + y)
  exact (times_byte.1 (this.2 ⟨i + x,times_byte.2 ⟨g2,rfl⟩,times_byte.2 ⟨g5,rfl⟩⟩)).1
theorem LN_nest {s:List UInt8} (p:Bool):∀ k:Nat,k < 1000→∀ i j,LN s (nestN p (k + 1)) i j↔∃ c,(bif p then 1 else 0)≤c∧At s (List.replicate c 97) i∧j=i + c
 | k,hk,i,j=>by
  have hz:=nest_size p (k + 1) (by omega)
  have hN:=nest_norm p (k + 1)
  have e:LN s (nestN p (k + 1))=RepL (LN s (nestN p k)) ((nestN p k).size==0) (bif p then 1 else 0) (-1):=LN_rep hN (by
   show (nestN p (k + 1)).size≠0
   rw [hz];omega)
  have ez:((nestN p k).size==0)=false:=by
   rw [nest_size p k (by omega)]
   simp
   omega
  rw [e,ez,rep_iff (by cases p <;> decide) (.inl (by decide))]
  cases k with
  | zero =>
   constructor
   ·rintro ⟨c,h1,_,h2⟩
    obtain ⟨g1,g2⟩:=times_byte.1 h2
    exact ⟨c,by cases p <;> simp at h1 ⊢ <;> omega,g1,g2⟩
   ·rintro ⟨c,h1,h2,h3⟩
    exact ⟨c,by cases p <;> simp at h1 ⊢ <;> omega, .inl (by decide),times_byte.2 ⟨h2,h3⟩⟩
  | succ k =>
   have ih:=LN_nest (s:=s) p k (by omega)
   constructor
   ·rintro ⟨c,h1,_,h2⟩
    obtain ⟨d,g1,g2,g3⟩:=times_rows ih h2
    exact ⟨d,by cases p <;> simp at h1 g1 ⊢ <;> omega,g2,g3⟩
   ·rintro ⟨c,h1,h2,h3⟩
    exact ⟨1,by cases p <;> decide, .inl (by decide),times_one.2 ((ih i j).2 ⟨c,h1,h2,h3⟩)⟩
theorem nn_loop {m:Int} {fl n:Nat} {pl:Bool} {hp:List Blk} {l:AV} (hn:n < 60):∀ (k i:Nat),i + k=n + 1→LoopI (cfg m) fl 8 (bodyAt (cfg m) 8 7) 7 ⟨nnSt pl l n (nestT pl i) i,hp⟩ (.exit 0) ⟨nnEnd pl l n (nestT pl (n + 1)),hp⟩
 | 0,i,h=>by
  obtain rfl:i=n + 1:=by omega
  exact nn_x (Nat.le_refl _) (by omega)
 | k + 1,i,h=>by
  have ih:=nn_loop (m:=m) (fl:=fl) (pl:=pl) (hp:=hp) (l:=l) hn k (i + 1) (by omega)
  have hl:=nest_len pl i
  cases pl with
  | false =>
   rw [show nestT false (i + 1)=[40]++nestT false i++[41,42] by simp [nestT,brk]] at ih
   exact nn_i0 (by omega) hn (by omega) _ _ ih
  | true =>
   rw [show nestT true (i + 1)=[40]++nestT true i++[41,43] by simp [nestT,brk]] at ih
   exact nn_i1 (by omega) hn (by omega) _ _ ih
def allF:List UInt8→Bool→Bool
 | [],b=>b
 | c::t,b=>allF t (b&&c==97)
def anyF:List UInt8→Bool→Bool
 | [],b=>b
 | c::t,b=>anyF t (b||c==97)
theorem gb_drop {t r:List UInt8} {c:UInt8} {i:Nat} (h:t.drop i=c::r):i < t.length∧gb t i=c∧t.drop (i + 1)=r:=by
 have h1:i < t.length:=by
  rcases Nat.lt_or_ge i t.length with h1 | h1
  ·exact h1
  ·rw [List.drop_eq_nil_of_le h1] at h;cases h
 have h2:t[i]?=some c:=by have:=congrArg (·[0]?) h;simpa using this
 refine ⟨h1, ?_,by rw [← List.drop_drop,h];rfl⟩
 unfold gb
 simp [h2]
theorem nk_loop {m:Int} {fl n:Nat} {pl:Bool} {hp:List Blk} {t:List UInt8} (ht:t.length≤24):∀ (r:List UInt8) (i:Nat) (al an:Bool),t.drop i=r→i≤t.length→LoopI (cfg m) fl 8 (bodyAt (cfg m) 8 19) 19 ⟨nkSt pl n t al an i,hp⟩ (.exit 2) ⟨nkEnd pl n t (allF r al) (anyF r an),hp⟩
 | [],i,al,an,h,hi=>nk_x (by simpa using h) (by omega)
 | c::r,i,al,an,h,hi=>by
  obtain ⟨h1,h2,h3⟩:=gb_drop h
  have ih:=nk_loop (m:=m) (fl:=fl) (n:=n) (pl:=pl) (hp:=hp) ht r (i + 1)
  by_cases hq:c=97
  ·subst hq
   cases al <;> cases an
   ·exact nk_ff1 h1 ht h2 _ _ (ih false true h3 (by omega))
   ·exact nk_ft1 h1 ht h2 _ _ (ih false true h3 (by omega))
   ·exact nk_tf1 h1 ht h2 _ _ (ih true true h3 (by omega))
   ·exact nk_tt1 h1 ht h2 _ _ (ih true true h3 (by omega))
  ·have e:(c==97)=false:=by simpa using hq
   have h2':¬ gb t i=97:=by rw [h2];exact hq
   unfold allF anyF
   rw [e]
   cases al <;> cases an
   ·exact nk_ff0 h1 ht h2' _ _ (ih false false h3 (by omega))
   ·exact nk_ft0 h1 ht h2' _ _ (ih false true h3 (by omega))
   ·exact nk_tf0 h1 ht h2' _ _ (ih false false h3 (by omega))
   ·exact nk_tt0 h1 ht h2' _ _ (ih false true h3 (by omega))
theorem allF_iff:∀ (t:List UInt8) (b:Bool),allF t b=true↔b=true∧t=List.replicate t.length 97
 | [],b=>by simp [allF]
 | c::t,b=>by
  unfold allF
  rw [allF_iff t,Bool.and_eq_true,beq_iff_eq,List.length_cons,List.replicate_succ,List.cons.injEq,and_assoc]
theorem anyF_iff:∀ (t:List UInt8) (b:Bool),anyF t b=true↔b=true∨97 ∈ t
 | [],b=>by simp [anyF]
 | c::t,b=>by
  unfold anyF
  rw [anyF_iff t,Bool.or_eq_true,beq_iff_eq,List.mem_cons,or_assoc]
  constructor
  ·rintro (h | h | h)
   ·exact .inl h
   ·exact .inr (.inl h.symm)
   ·exact .inr (.inr h)
  ·rintro (h | h | h)
   ·exact .inl h
   ·exact .inr (.inl h.symm)
   ·exact .inr (.inr h)
theorem nested_law {m:Int} {deep:Int} {p:Bool} {l:AV} {bs:List UInt8} (h0:0≤deep) (hl:IsSl 1 l (bsV bs)):evI (cfg m) 0 8 [.int .u8 deep, .bool p,l] []=some (.bool true,[]):=by
 obtain ⟨de,rfl⟩:∃ n:Nat,deep=n:=⟨deep.toNat,by omega⟩
 have ha2:de % 60 < 60:=Nat.mod_lt _ (by omega)
 have ha:Int.tmod (de:Int) 60=((de % 60:Nat):Int):=rfl
 generalize de % 60=n at *
 have xf:=few_ok (m:=m) (fl:=0) (hp:=[]) hl
 have lt:=feT_len bs
 generalize feT bs=t at *
 have hlen:=nest_len p (n + 1)
 obtain ⟨g1,o,pr,_⟩:=of_rd (m:=m) (fl:=0) (hp:=[]) (nest_rd p (n + 1)) (by rw [nest_size p _ (by omega)];omega) (by omega) rfl (Nat.zero_le _)
 obtain ⟨b1,w1,i1⟩:=whole_prg (m:=m) (fl:=0) (s:=t) pr (by omega)
 obtain ⟨b2,w2,i2⟩:=find_prg (m:=m) (fl:=0) (s:=t) pr (by omega)
 have w3:=size_prg (m:=m) (fl:=0) pr
 rw [nest_size p _ (by omega),show ((n + 1:Nat):Int) + 1=1 + (n:Int) + 1 by omega] at w3
 simp only [LN_nest (s:=t) p n (by omega)] at i1 i2
 have lp:=nn_loop (m:=m) (fl:=0) (pl:=p) (hp:=[]) (l:=l) ha2 (n + 1) 0 (by omega)
 have lk:=nk_loop (m:=m) (fl:=0) (n:=n) (pl:=p) (hp:=g1) lt t 0 true false rfl (Nat.zero_le _)
 have j1:b1=true↔(bif p then 1 else 0)≤t.length∧t=List.replicate t.length 97:=by
  rw [i1]
  constructor
  ·rintro ⟨c,h1,h2,h3⟩
   obtain rfl:c=t.length:=by omega
   exact ⟨h1,((At_zero (s:=t)).1 ⟨h2,by simp⟩).symm⟩
  ·rintro ⟨h1,h2⟩
   refine ⟨t.length,h1, ?_,by omega⟩
   rw [← h2];simp [At]
 have j2:b2=true↔p=false∨97 ∈ t:=by
  rw [i2]
  constructor
  ·rintro ⟨i,j,h0,c,h1,h2,h3⟩
   cases p with
   | false=>exact .inl rfl
   | true =>
    obtain ⟨d,rfl⟩:∃ d,c=d + 1:=⟨c - 1,by simp at h1;omega⟩
    rw [List.replicate_succ,At_cons] at h2
    exact .inr (List.mem_of_getElem? h2.1)
  ·rintro (h | h)
   ·subst h
    exact ⟨0,0,Nat.zero_le _,0,Nat.le_refl _,At.nil _ _,rfl⟩
   ·obtain ⟨i,hi⟩:=List.getElem?_of_mem h
    have:=(List.getElem?_eq_some_iff.1 hi).1
    exact ⟨i,i + 1,by omega,1,by cases p <;> decide,At_cons.2 ⟨hi,At.nil _ _⟩,rfl⟩
 have j3:=allF_iff t true
 have j4:=anyF_iff t false
 generalize allF t true=al at *
 generalize anyF t false=an at *
 cases p with
 | false =>
  have e1:b1=al:=by rw [Bool.eq_iff_iff,j1,j3];simp
  have e2:b2=true:=j2.2 (.inl rfl)
  subst e1 e2
  exact nn_0 ex0 ha ha2 xf lp o lk w1 w2 w3
 | true =>
  have e2:b2=an:=by rw [Bool.eq_iff_iff,j2,j4];simp
  subst e2
  cases al with
  | false =>
   have e1:b1=false:=by
    rw [Bool.eq_false_iff];intro h
    exact absurd (j3.2 ⟨rfl,(j1.1 h).2⟩) (by simp)
   subst e1
   exact nn_1c ex0 ha ha2 xf lp o lk w1 w2 w3
  | true =>
   have ht:=(j3.1 rfl).2
   by_cases e:t=[]
   ·have e1:b1=false:=by
     rw [Bool.eq_false_iff];intro h
     have:=(j1.1 h).1
     rw [e] at this;simp at this
    have e3:b2=false:=by
     rw [Bool.eq_false_iff];intro h
     have:=j4.1 h
     rw [e] at this;simp at this
    subst e1 e3
    exact nn_1a (an:=true) ex0 ha ha2 xf lp o e lk w1 w2 w3
   ·have hpos:1≤t.length:=by
     cases t with
     | nil=>exact absurd rfl e
     | cons c t=>simp
    have e1:b1=true:=j1.2 ⟨hpos,ht⟩
    have e3:b2=true:=j4.2 (.inr (by
     rw [ht]
     exact List.mem_replicate.2 ⟨by omega,rfl⟩))
    subst e1 e3
    exact nn_1b (an:=true) ex0 ha ha2 xf lp o e lk w1 w2 w3
theorem nested_all (a:Int) (p:Bool) (x:AV) (ha:0≤a∧a≤255) (hx:Sh (cfg 0) 6 22 x):evI (cfg 0) 0 8 [.int .u8 a, .bool p,x] []=some (.bool true,[]):=by
 obtain ⟨bs,hb⟩:=bytes_of hx
 exact nested_law ha.1 hb
end Go.Proofs.YtanopbolgfcojaaGreatDoor.E.SZ
