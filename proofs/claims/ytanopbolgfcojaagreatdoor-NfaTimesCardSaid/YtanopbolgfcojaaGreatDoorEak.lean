/- Steps of the seat's proofs: an evaluator of the program's code, its soundness, and what the functions come to. -/
import Derived.Test.YtanopbolgfcojaaGreatDoorEaj
set_option linter.unusedSimpArgs false
set_option linter.unusedVariables false
namespace Go.Proofs.YtanopbolgfcojaaGreatDoor.E.SZ
open Go Go.Proofs E E.R
theorem rem_ok {C:Cfg} {t:TypeId} {a b c:Int} (hb:b≠0) (h:Int.tmod a b=c):binE C .rem t false (.int .i64 a) (.int .i64 b)=some (.int .i64 c):=by
 have e:(b==0)=false:=by simpa using hb
 simp [binE,arith,e,h]
abbrev tmSt (e:Bool) (a d k:Nat) (s t:List UInt8) (i:Nat):List TV:=[J,J, .v (.bool e),J,J,J,J,J,J, .v (.bool true), .v (AI a), .v (AI ((a:Int) + (d:Int))), .v (AI k), .v (.str s), .v (.str t), .v (AI i)]++List.replicate 85 J
abbrev tmEnd (e:Bool) (a d k:Nat) (s t:List UInt8):List TV:=[J,J, .v (.bool e),J,J,J,J,J,J, .v (.bool true), .v (AI a), .v (AI ((a:Int) + (d:Int))), .v (AI k), .v (.str s), .v (.str t)]++List.replicate 86 J
theorem nt_i {m:Int} {fl a d k i:Nat} {e:Bool} {hp:List Blk} {s t:List UInt8} (hi:i < k) (hk:k < 64) (ht:t.length < 1000):LoopS (cfg m) fl 6 (bodyAt (cfg m) 6 12) 12 ⟨tmSt e a d k s t i,hp⟩ ⟨tmSt e a d k s (t++[97]) (i + 1),hp⟩:=by
 exact loopStepS (St.mk ([J,J,TV.v (AV.bool e),J,J,J,J,J,J,TV.v (AV.bool true),TV.v (AI a),TV.v (AI ((↑a:Int) + (↑d:Int))),TV.v (AI k),TV.v (AV.str s),TV.v (AV.str (t++[97])),TV.v (AI ((↑i:Int) + 1))]++Jn 85) hp) [.b 12 2 (decide_eq_true ((show (↑i:Int) < (↑k:Int) from (by omega)))), .v 14 1 (strOp_add (x:=t) (y:=[97]) (by simp only [setAt_length,List.length_append,List.length_cons,List.length_nil,List.length_map] at *;omega)), .w 13 1 IntKind.i64 ((↑i:Int) + 1) (wrap_i64' (by omega))] (by kernel_rfl) rfl
theorem nt_x {m:Int} {fl a d k i:Nat} {e:Bool} {hp:List Blk} {s t:List UInt8} (hi:k≤i) (hk:i < 65):LoopI (cfg m) fl 6 (bodyAt (cfg m) 6 12) 12 ⟨tmSt e a d k s t i,hp⟩ (.exit 0) ⟨tmEnd e a d k s t,hp⟩:=by
 exact loopEndC (.exit 0) (St.mk ([J,J,TV.v (AV.bool e),J,J,J,J,J,J,TV.v (AV.bool true),TV.v (AI a),TV.v (AI ((↑a:Int) + (↑d:Int))),TV.v (AI k),TV.v (AV.str s),TV.v (AV.str t)]++Jn 86) hp) [.b 12 2 (decide_eq_false ((show ¬(↑i:Int) < (↑k:Int) from (by omega))))] (by kernel_rfl) (fun h=>by cases h) rfl
theorem nt_1 {m:Int} {low more many:Int} {a d k:Nat} {ta tb t:List UInt8} {g1:List Blk} {pl:Int} (hex:evI (cfg m) 0 9 [] []=some (.bool true,[])) (ha:Int.tmod low 21=(a:Int)) (ha2:a < 21) (hd:Int.tmod more (21 - (a:Int))=(d:Int)) (hd2:d < 21 - a) (hk:Int.tmod many 64=(k:Int)) (hk2:k < 64) (hm0:0≤more) (hm1:more≤255) (h2a:evI (cfg m) 0 16 [.int .i64 (a:Int)] []=some (.str ta,[])) (h2b:evI (cfg m) 0 16 [.int .i64 ((a:Int) + (d:Int))] []=some (.str tb,[])) (la:ta.length≤2) (lb:tb.length≤2) (lt:t.length=k) (hlp:LoopI (cfg m) 0 6 (bodyAt (cfg m) 6 12) 12 ⟨tmSt false a d k ([97,123]++ta++[44]++tb++[125]) [] 0,[]⟩ (.exit 0) ⟨tmEnd false a d k ([97,123]++ta++[44]++tb++[125]) t,[]⟩) (hof:evI (cfg m) 0 12 [.str ([97,123]++ta++[44]++tb++[125])] []=some (.tup [.ptr 0 0, .int .i64 pl, .int .i64 0],g1)) (w1:evI (cfg m) 0 13 [.ptr 0 0, .str t] g1=some (.bool (decide ((a:Int)≤(k:Int)∧(k:Int)≤(a:Int) + (d:Int))),g1)) (w2:evI (cfg m) 0 14 [.ptr 0 0, .str t] g1=some (.bool (decide ((a:Int)≤(k:Int))),g1)) (w3:evI (cfg m) 0 13 [.ptr 0 0, .str (t++[98])] g1=some (.bool false,g1)):evI (cfg m) 0 6 [.int .u8 low, .int .u8 more, .bool false, .int .u8 many] []=some (.bool true,[]):=by
 by_cases h1:(↑a:Int)≤(↑k:Int)∧(↑k:Int)≤(↑a:Int) + (↑d:Int)
 ·exact evX (AV.bool true) (g1) [.c 1 0 hex, .w 4 1 IntKind.u8 ((↑a:Int)) ha, .wc 4 2 IntKind.i64 ((↑a:Int)) ([]) (wrap_i64' (by omega)), .wc 5 2 IntKind.i64 (more) ([]) (wrap_i64' (by omega)), .w 5 4 IntKind.i64 (21 - (↑a:Int)) (wrap_i64' (by omega)), .v 5 5 (rem_ok (C:=cfg m) (t:=3) (a:=more) (b:=21 - (↑a:Int)) (c:=(↑d:Int)) (by omega) hd), .w 5 6 IntKind.i64 ((↑a:Int) + (↑d:Int)) (wrap_i64' (by omega)), .w 6 1 IntKind.u8 ((↑k:Int)) hk, .wc 6 2 IntKind.i64 ((↑k:Int)) ([]) (wrap_i64' (by omega)), .c 7 1 h2a, .v 7 2 (strOp_add (x:=[97,123]) (y:=ta) (by simp only [setAt_length,List.length_append,List.length_cons,List.length_nil,List.length_map] at *;omega)), .v 7 3 (strOp_add (x:=[97,123]++ta) (y:=[44]) (by simp only [setAt_length,List.length_append,List.length_cons,List.length_nil,List.length_map] at *;omega)), .c 7 5 h2b, .v 7 6 (strOp_add (x:=[97,123]++ta++[44]) (y:=tb) (by simp only [setAt_length,List.length_append,List.length_cons,List.length_nil,List.length_map] at *;omega)), .v 7 7 (strOp_add (x:=[97,123]++ta++[44]++tb) (y:=[125]) (by simp only [setAt_length,List.length_append,List.length_cons,List.length_nil,List.length_map] at *;omega)), .l 12 hlp, .c 15 1 hof, .cb 18 4 w1 (decide_eq_true h1), .b 18 7 (decide_eq_true ((show (↑k:Int)≥(↑a:Int) from (by omega)))), .b 18 13 (decide_eq_true ((show (↑k:Int)≤(↑a:Int) + (↑d:Int) from (by omega)))), .cb 18 21 w2 (decide_eq_true ((show (↑a:Int)≤(↑k:Int) from (by omega)))), .b 18 24 (decide_eq_true ((show (↑k:Int)≥(↑a:Int) from (by omega)))), .v 18 30 (strOp_add (x:=t) (y:=[98]) (by simp only [setAt_length,List.length_append,List.length_cons,List.length_nil,List.length_map] at *;omega)), .c 18 31 w3] (by kernel_rfl) (tlP (by kernel_rfl) rfl (shutT (v:=AV.bool true) (v':=AV.bool true) (by kernel_rfl))) rfl
 ·by_cases h2:(↑k:Int)≥(↑a:Int)
  ·exact evX (AV.bool true) (g1) [.c 1 0 hex, .w 4 1 IntKind.u8 ((↑a:Int)) ha, .wc 4 2 IntKind.i64 ((↑a:Int)) ([]) (wrap_i64' (by omega)), .wc 5 2 IntKind.i64 (more) ([]) (wrap_i64' (by omega)), .w 5 4 IntKind.i64 (21 - (↑a:Int)) (wrap_i64' (by omega)), .v 5 5 (rem_ok (C:=cfg m) (t:=3) (a:=more) (b:=21 - (↑a:Int)) (c:=(↑d:Int)) (by omega) hd), .w 5 6 IntKind.i64 ((↑a:Int) + (↑d:Int)) (wrap_i64' (by omega)), .w 6 1 IntKind.u8 ((↑k:Int)) hk, .wc 6 2 IntKind.i64 ((↑k:Int)) ([]) (wrap_i64' (by omega)), .c 7 1 h2a, .v 7 2 (strOp_add (x:=[97,123]) (y:=ta) (by simp only [setAt_length,List.length_append,List.length_cons,List.length_nil,List.length_map] at *;omega)), .v 7 3 (strOp_add (x:=[97,123]++ta) (y:=[44]) (by simp only [setAt_length,List.length_append,List.length_cons,List.length_nil,List.length_map] at *;omega)), .c 7 5 h2b, .v 7 6 (strOp_add (x:=[97,123]++ta++[44]) (y:=tb) (by simp only [setAt_length,List.length_append,List.length_cons,List.length_nil,List.length_map] at *;omega)), .v 7 7 (strOp_add (x:=[97,123]++ta++[44]++tb) (y:=[125]) (by simp only [setAt_length,List.length_append,List.length_cons,List.length_nil,List.length_map] at *;omega)), .l 12 hlp, .c 15 1 hof, .cb 18 4 w1 (decide_eq_false h1), .b 18 7 (decide_eq_true h2), .b 18 13 (decide_eq_false ((show ¬(↑k:Int)≤(↑a:Int) + (↑d:Int) from (by omega)))), .cb 18 21 w2 (decide_eq_true (h2)), .b 18 24 (decide_eq_true (h2)), .v 18 30 (strOp_add (x:=t) (y:=[98]) (by simp only [setAt_length,List.length_append,List.length_cons,List.length_nil,List.length_map] at *;omega)), .c 18 31 w3] (by kernel_rfl) (tlP (by kernel_rfl) rfl (shutT (v:=AV.bool true) (v':=AV.bool true) (by kernel_rfl))) rfl
  ·exact evX (AV.bool true) (g1) [.c 1 0 hex, .w 4 1 IntKind.u8 ((↑a:Int)) ha, .wc 4 2 IntKind.i64 ((↑a:Int)) ([]) (wrap_i64' (by omega)), .wc 5 2 IntKind.i64 (more) ([]) (wrap_i64' (by omega)), .w 5 4 IntKind.i64 (21 - (↑a:Int)) (wrap_i64' (by omega)), .v 5 5 (rem_ok (C:=cfg m) (t:=3) (a:=more) (b:=21 - (↑a:Int)) (c:=(↑d:Int)) (by omega) hd), .w 5 6 IntKind.i64 ((↑a:Int) + (↑d:Int)) (wrap_i64' (by omega)), .w 6 1 IntKind.u8 ((↑k:Int)) hk, .wc 6 2 IntKind.i64 ((↑k:Int)) ([]) (wrap_i64' (by omega)), .c 7 1 h2a, .v 7 2 (strOp_add (x:=[97,123]) (y:=ta) (by simp only [setAt_length,List.length_append,List.length_cons,List.length_nil,List.length_map] at *;omega)), .v 7 3 (strOp_add (x:=[97,123]++ta) (y:=[44]) (by simp only [setAt_length,List.length_append,List.length_cons,List.length_nil,List.length_map] at *;omega)), .c 7 5 h2b, .v 7 6 (strOp_add (x:=[97,123]++ta++[44]) (y:=tb) (by simp only [setAt_length,List.length_append,List.length_cons,List.length_nil,List.length_map] at *;omega)), .v 7 7 (strOp_add (x:=[97,123]++ta++[44]++tb) (y:=[125]) (by simp only [setAt_length,List.length_append,List.length_cons,List.length_nil,List.length_map] at *;omega)), .l 12 hlp, .c 15 1 hof, .cb 18 4 w1 (decide_eq_false h1), .b 18 7 (decide_eq_false h2), .cb 18 21 w2 (decide_eq_false (h2)), .b 18 24 (decide_eq_false (h2)), .v 18 30 (strOp_add (x:=t) (y:=[98]) (by simp only [setAt_length,List.length_append,List.length_cons,List.length_nil,List.length_map] at *;omega)), .c 18 31 w3] (by kernel_rfl) (tlP (by kernel_rfl) rfl (shutT (v:=AV.bool true) (v':=AV.bool true) (by kernel_rfl))) rfl
theorem nt_2 {m:Int} {low more many:Int} {a d k:Nat} {ta tb t:List UInt8} {g1:List Blk} {pl:Int} (hex:evI (cfg m) 0 9 [] []=some (.bool true,[])) (ha:Int.tmod low 21=(a:Int)) (ha2:a < 21) (hd:Int.tmod more (21 - (a:Int))=(d:Int)) (hd2:d < 21 - a) (hk:Int.tmod many 64=(k:Int)) (hk2:k < 64) (hm0:0≤more) (hm1:more≤255) (h2a:evI (cfg m) 0 16 [.int .i64 (a:Int)] []=some (.str ta,[])) (h2b:evI (cfg m) 0 16 [.int .i64 ((a:Int) + (d:Int))] []=some (.str tb,[])) (la:ta.length≤2) (lb:tb.length≤2) (lt:t.length=k) (hlp:LoopI (cfg m) 0 6 (bodyAt (cfg m) 6 12) 12 ⟨tmSt true a d k ([97,123]++ta++[44,125]) [] 0,[]⟩ (.exit 0) ⟨tmEnd true a d k ([97,123]++ta++[44,125]) t,[]⟩) (hof:evI (cfg m) 0 12 [.str ([97,123]++ta++[44,125])] []=some (.tup [.ptr 0 0, .int .i64 pl, .int .i64 0],g1)) (w1:evI (cfg m) 0 13 [.ptr 0 0, .str t] g1=some (.bool (decide ((a:Int)≤(k:Int))),g1)) (w2:evI (cfg m) 0 14 [.ptr 0 0, .str t] g1=some (.bool (decide ((a:Int)≤(k:Int))),g1)) (w3:evI (cfg m) 0 13 [.ptr 0 0, .str (t++[98])] g1=some (.bool false,g1)):evI (cfg m) 0 6 [.int .u8 low, .int .u8 more, .bool true, .int .u8 many] []=some (.bool true,[]):=by
 by_cases h1:(↑a:Int)≤(↑k:Int)
 ·exact evX (AV.bool true) (g1) [.c 1 0 hex, .w 4 1 IntKind.u8 ((↑a:Int)) ha, .wc 4 2 IntKind.i64 ((↑a:Int)) ([]) (wrap_i64' (by omega)), .wc 5 2 IntKind.i64 (more) ([]) (wrap_i64' (by omega)), .w 5 4 IntKind.i64 (21 - (↑a:Int)) (wrap_i64' (by omega)), .v 5 5 (rem_ok (C:=cfg m) (t:=3) (a:=more) (b:=21 - (↑a:Int)) (c:=(↑d:Int)) (by omega) hd), .w 5 6 IntKind.i64 ((↑a:Int) + (↑d:Int)) (wrap_i64' (by omega)), .w 6 1 IntKind.u8 ((↑k:Int)) hk, .wc 6 2 IntKind.i64 ((↑k:Int)) ([]) (wrap_i64' (by omega)), .c 7 1 h2a, .v 7 2 (strOp_add (x:=[97,123]) (y:=ta) (by simp only [setAt_length,List.length_append,List.length_cons,List.length_nil,List.length_map] at *;omega)), .v 7 3 (strOp_add (x:=[97,123]++ta) (y:=[44]) (by simp only [setAt_length,List.length_append,List.length_cons,List.length_nil,List.length_map] at *;omega)), .c 7 5 h2b, .v 7 6 (strOp_add (x:=[97,123]++ta++[44]) (y:=tb) (by simp only [setAt_length,List.length_append,List.length_cons,List.length_nil,List.length_map] at *;omega)), .v 7 7 (strOp_add (x:=[97,123]++ta++[44]++tb) (y:=[125]) (by simp only [setAt_length,List.length_append,List.length_cons,List.length_nil,List.length_map] at *;omega)), .c 9 1 h2a, .v 9 2 (strOp_add (x:=[97,123]) (y:=ta) (by simp only [setAt_length,List.length_append,List.length_cons,List.length_nil,List.length_map] at *;omega)), .v 9 3 (strOp_add (x:=[97,123]++ta) (y:=[44,125]) (by simp only [setAt_length,List.length_append,List.length_cons,List.length_nil,List.length_map] at *;omega)), .l 12 hlp, .c 15 1 hof, .cb 18 4 w1 (decide_eq_true h1), .b 18 7 (decide_eq_true (h1)), .cb 18 21 w2 (decide_eq_true (h1)), .b 18 24 (decide_eq_true (h1)), .v 18 30 (strOp_add (x:=t) (y:=[98]) (by simp only [setAt_length,List.length_append,List.length_cons,List.length_nil,List.length_map] at *;omega)), .c 18 31 w3] (by kernel_rfl) (tlP (by kernel_rfl) rfl (shutT (v:=AV.bool true) (v':=AV.bool true) (by kernel_rfl))) rfl
 ·exact evX (AV.bool true) (g1) [.c 1 0 hex, .w 4 1 IntKind.u8 ((↑a:Int)) ha, .wc 4 2 IntKind.i64 ((↑a:Int)) ([]) (wrap_i64' (by omega)), .wc 5 2 IntKind.i64 (more) ([]) (wrap_i64' (by omega)), .w 5 4 IntKind.i64 (21 - (↑a:Int)) (wrap_i64' (by omega)), .v 5 5 (rem_ok (C:=cfg m) (t:=3) (a:=more) (b:=21 - (↑a:Int)) (c:=(↑d:Int)) (by omega) hd), .w 5 6 IntKind.i64 ((↑a:Int) + (↑d:Int)) (wrap_i64' (by omega)), .w 6 1 IntKind.u8 ((↑k:Int)) hk, .wc 6 2 IntKind.i64 ((↑k:Int)) ([]) (wrap_i64' (by omega)), .c 7 1 h2a, .v 7 2 (strOp_add (x:=[97,123]) (y:=ta) (by simp only [setAt_length,List.length_append,List.length_cons,List.length_nil,List.length_map] at *;omega)), .v 7 3 (strOp_add (x:=[97,123]++ta) (y:=[44]) (by simp only [setAt_length,List.length_append,List.length_cons,List.length_nil,List.length_map] at *;omega)), .c 7 5 h2b, .v 7 6 (strOp_add (x:=[97,123]++ta++[44]) (y:=tb) (by simp only [setAt_length,List.length_append,List.length_cons,List.length_nil,List.length_map] at *;omega)), .v 7 7 (strOp_add (x:=[97,123]++ta++[44]++tb) (y:=[125]) (by simp only [setAt_length,List.length_append,List.length_cons,List.length_nil,List.length_map] at *;omega)), .c 9 1 h2a, .v 9 2 (strOp_add (x:=[97,123]) (y:=ta) (by simp only [setAt_length,List.length_append,List.length_cons,List.length_nil,List.length_map] at *;omega)), .v 9 3 (strOp_add (x:=[97,123]++ta) (y:=[44,125]) (by simp only [setAt_length,List.length_append,List.length_cons,List.length_nil,List.length_map] at *;omega)), .l 12 hlp, .c 15 1 hof, .cb 18 4 w1 (decide_eq_false h1), .b 18 7 (decide_eq_false (h1)), .cb 18 21 w2 (decide_eq_false (h1)), .b 18 24 (decide_eq_false (h1)), .v 18 30 (strOp_add (x:=t) (y:=[98]) (by simp only [setAt_length,List.length_append,List.length_cons,List.length_nil,List.length_map] at *;omega)), .c 18 31 w3] (by kernel_rfl) (tlP (by kernel_rfl) rfl (shutT (v:=AV.bool true) (v':=AV.bool true) (by kernel_rfl))) rfl
end Go.Proofs.YtanopbolgfcojaaGreatDoor.E.SZ
/- The law NfaTimes. -/
namespace Go.Proofs.YtanopbolgfcojaaGreatDoor.E.SZ
open Go Go.Proofs E E.R E.SZ.N
def twoF (n : Nat) : List UInt8 := if n < 10 then [UInt8.ofNat (48 + n)] else [UInt8.ofNat (48 + n / 10), UInt8.ofNat (48 + n % 10)]
theorem two_ok {m : Int} {fl : Nat} {hp : List Blk} : ∀ (n : Nat), n < 21 → evI (cfg m) fl 16 [.int .i64 (n : Int)] hp = some (.str (twoF n), hp)
  | 0, _ => evI_of (k := 2) (by kernel_rfl)
  | 1, _ => evI_of (k := 2) (by kernel_rfl)
  | 2, _ => evI_of (k := 2) (by kernel_rfl)
  | 3, _ => evI_of (k := 2) (by kernel_rfl)
  | 4, _ => evI_of (k := 2) (by kernel_rfl)
  | 5, _ => evI_of (k := 2) (by kernel_rfl)
  | 6, _ => evI_of (k := 2) (by kernel_rfl)
  | 7, _ => evI_of (k := 2) (by kernel_rfl)
  | 8, _ => evI_of (k := 2) (by kernel_rfl)
  | 9, _ => evI_of (k := 2) (by kernel_rfl)
  | 10, _ => evI_of (k := 2) (by kernel_rfl)
  | 11, _ => evI_of (k := 2) (by kernel_rfl)
  | 12, _ => evI_of (k := 2) (by kernel_rfl)
  | 13, _ => evI_of (k := 2) (by kernel_rfl)
  | 14, _ => evI_of (k := 2) (by kernel_rfl)
  | 15, _ => evI_of (k := 2) (by kernel_rfl)
  | 16, _ => evI_of (k := 2) (by kernel_rfl)
  | 17, _ => evI_of (k := 2) (by kernel_rfl)
  | 18, _ => evI_of (k := 2) (by kernel_rfl)
  | 19, _ => evI_of (k := 2) (by kernel_rfl)
  | 20, _ => evI_of (k := 2) (by kernel_rfl)
  | _ + 21, h => by omega
theorem two_len : ∀ n, n < 21 → (twoF n).length ≤ 2 := by decide
theorem brc_all : ((List.range 21).all fun a => (List.range 21).all fun b => !decide (a ≤ b) || decide (brcL (twoF a ++ 44 :: (twoF b ++ [125])) = some ((a : Int), (b : Int), []))) = true := by decide +kernel
theorem brc_two (a : Nat) (ha : a < 21) (b : Nat) (hb : b < 21) (h : a ≤ b) : brcL (twoF a ++ 44 :: (twoF b ++ [125])) = some ((a : Int), (b : Int), []) := by
  have h1 := List.all_eq_true.1 brc_all a (List.mem_range.2 ha)
  have h2 := List.all_eq_true.1 h1 b (List.mem_range.2 hb)
  rw [decide_eq_true h] at h2
  exact of_decide_eq_true (by simpa using h2)
theorem brc_end : ∀ a, a < 21 → brcL (twoF a ++ [44, 125]) = some ((a : Int), -1, []) := by decide +kernel
/-- a letter and braces -/
theorem rd_rep {r : List UInt8} {a b : Int} (h : brcL r = some (a, b, [])) : rdA (97 :: 123 :: r) = some (repB1 97 a b, []) := by
  have h1 : rdP (97 :: 123 :: r) = some (repB1 97 a b, []) := by
    unfold rdP pieceL
    have e : atomL rdA (97 :: 123 :: r) = some (oneB 97, 123 :: r) := rfl
    rw [e]
    show timesL (oneB 97) (123 :: r) = _
    unfold timesL
    show (match brcL r with | none => none | some (lo, hi, t') => some (Node.mk 6 W4.zero lo hi [oneB 97], t')) = _
    rw [h]
    rfl
  rw [rdA_eq, rdO_eq]
  rw [if_neg (by rintro (h | h); cases h; exact absurd h (show (97 : UInt8) ≠ 41 by decide)), if_neg (show ¬ ((97 : UInt8) :: 123 :: r).headD 0 = 124 by show ¬ (97 : UInt8) = 124; decide), h1]
  show (match rdO [] [repB1 97 a b] [] with | none => none | some (A, O, t') => some (endF (A ++ [catF O]), t')) = _
  rw [rdO_end (.inl rfl)]
  rfl
theorem nt_loop {m : Int} {fl a d k : Nat} {e : Bool} {hp : List Blk} {s : List UInt8} (hk : k < 64) : ∀ (n i : Nat), i + n = k → LoopI (cfg m) fl 6 (bodyAt (cfg m) 6 12) 12 ⟨tmSt e a d k s (List.replicate i 97) i, hp⟩ (.exit 0) ⟨tmEnd e a d k s (List.replicate k 97), hp⟩
  | 0, i, h => by
    obtain rfl : i = k := by omega
    exact nt_x (Nat.le_refl _) (by omega)
  | n + 1, i, h => by
    have ih := nt_loop (m := m) (fl := fl) (a := a) (d := d) (e := e) (hp := hp) (s := s) hk n (i + 1) (by omega)
    rw [List.replicate_succ'] at ih
    exact nt_i (by omega) hk (by simp; omega) _ _ ih
theorem times_law {m : Int} {low more many : Int} {e : Bool} (hl : 0 ≤ low) (hm0 : 0 ≤ more) (hm1 : more ≤ 255) (hn : 0 ≤ many) : evI (cfg m) 0 6 [.int .u8 low, .int .u8 more, .bool e, .int .u8 many] [] = some (.bool true, []) := by
  obtain ⟨lo, rfl⟩ : ∃ n : Nat, low = n := ⟨low.toNat, by omega⟩
  obtain ⟨mo, rfl⟩ : ∃ n : Nat, more = n := ⟨more.toNat, by omega⟩
  obtain ⟨ma, rfl⟩ : ∃ n : Nat, many = n := ⟨many.toNat, by omega⟩
  have ha2 : lo % 21 < 21 := Nat.mod_lt _ (by omega)
  have ha : Int.tmod (lo : Int) 21 = ((lo % 21 : Nat) : Int) := rfl
  generalize lo % 21 = a at *
  have hd2 : mo % (21 - a) < 21 - a := Nat.mod_lt _ (by omega)
  have hd : Int.tmod (mo : Int) (21 - (a : Int)) = ((mo % (21 - a) : Nat) : Int) := by
    rw [show (21 : Int) - (a : Int) = ((21 - a : Nat) : Int) by omega]; rfl
  generalize mo % (21 - a) = d at *
  have hk2 : ma % 64 < 64 := Nat.mod_lt _ (by omega)
  have hk : Int.tmod (ma : Int) 64 = ((ma % 64 : Nat) : Int) := rfl
  generalize ma % 64 = k at *
  have t1 := two_ok (m := m) (fl := 0) (hp := []) a ha2
  have t2 := two_ok (m := m) (fl := 0) (hp := []) (a + d) (by omega)
  rw [show ((a + d : Nat) : Int) = (a : Int) + (d : Int) by omega] at t2
  have l1 := two_len a ha2
  have l2 := two_len (a + d) (by omega)
  have key : ∀ (S : List UInt8) (b : Int), (b = -1 ∨ (a : Int) ≤ b) → b ≤ 20 → S.length ≤ 256 → rdA S = some (repB1 97 a b, []) → ∃ g1, evI (cfg m) 0 12 [.str S] [] = some (.tup [.ptr 0 0, .int .i64 (S.length : Int), .int .i64 0], g1) ∧
      evI (cfg m) 0 13 [.ptr 0 0, .str (List.replicate k 97)] g1 = some (.bool (decide ((a : Int) ≤ (k : Int) ∧ (b < 0 ∨ (k : Int) ≤ b))), g1) ∧ evI (cfg m) 0 14 [.ptr 0 0, .str (List.replicate k 97)] g1 = some (.bool (decide ((a : Int) ≤ (k : Int))), g1) ∧ evI (cfg m) 0 13 [.ptr 0 0, .str (List.replicate k 97 ++ [98])] g1 = some (.bool false, g1) := by
    intro S b h1 h2 h3 h4
    have hN := rdA_norm _ _ _ h4
    have hz := repB1_size (x := 97) (a := (a : Int)) (b := b) (by omega) h1 (by omega) h2
    obtain ⟨g1, o, p, _⟩ := of_rd (m := m) (fl := 0) (hp := []) h4 (by split at hz <;> omega) h3 rfl (Nat.zero_le _)
    obtain ⟨b1, w1, i1⟩ := whole_prg (m := m) (fl := 0) (s := List.replicate k 97) p (by simp; omega)
    obtain ⟨b2, w2, i2⟩ := find_prg (m := m) (fl := 0) (s := List.replicate k 97) p (by simp; omega)
    obtain ⟨b3, w3, i3⟩ := whole_prg (m := m) (fl := 0) (s := List.replicate k 97 ++ [98]) p (by simp; omega)
    rw [LN_repB1 hN (by omega) h1 (by omega) h2] at i1 i2 i3
    simp only [At_rep, List.length_replicate] at i1 i2
    have e1 : b1 = decide ((a : Int) ≤ (k : Int) ∧ (b < 0 ∨ (k : Int) ≤ b)) := by
      rw [Bool.eq_iff_iff, i1, decide_eq_true_eq]
      constructor
      · rintro ⟨c, g1, g2, g3, g4⟩
        obtain rfl : k = c := by omega
        exact ⟨g1, g2⟩
      · rintro ⟨g1, g2⟩
        exact ⟨k, g1, g2, by omega, by omega⟩
    have e2 : b2 = decide ((a : Int) ≤ (k : Int)) := by
      rw [Bool.eq_iff_iff, i2, decide_eq_true_eq]
      constructor
      · rintro ⟨i, j, g0, c, g1, g2, g3, g4⟩
        omega
      · intro g1
        exact ⟨0, a, by omega, a, by omega, by omega, by omega, by omega⟩
    have e3 : b3 = false := by
      rw [Bool.eq_false_iff]
      intro g
      obtain ⟨c, _, _, g3, g4⟩ := i3.1 g
      obtain rfl : c = k + 1 := by simp at g4; omega
      unfold At at g3
      rw [List.drop_zero, List.take_of_length_le (by simp), List.replicate_succ'] at g3
      have := List.append_cancel_left g3
      exact absurd this (by decide)
    exact ⟨g1, o, e1 ▸ w1, e2 ▸ w2, e3 ▸ w3⟩
  cases e with
  | false =>
    obtain ⟨g1, o, w1, w2, w3⟩ := key ([97, 123] ++ twoF a ++ [44] ++ twoF (a + d) ++ [125]) ((a : Int) + (d : Int)) (by omega) (by omega) (by simp; omega) (by
      have := rd_rep (brc_two a ha2 (a + d) (by omega) (by omega))
      simpa using this)
    refine nt_1 ex0 ha ha2 hd hd2 hk hk2 hm0 hm1 t1 t2 l1 l2 (by simp) (nt_loop hk2 k 0 (by omega)) o ?_ w2 w3
    rw [w1]
    congr 4
    exact propext ⟨fun h => ⟨h.1, by omega⟩, fun h => ⟨h.1, .inr h.2⟩⟩
  | true =>
    obtain ⟨g1, o, w1, w2, w3⟩ := key ([97, 123] ++ twoF a ++ [44, 125]) (-1) (.inl rfl) (by omega) (by simp; omega) (by
      have := rd_rep (brc_end a ha2)
      simpa using this)
    refine nt_2 ex0 ha ha2 hd hd2 hk hk2 hm0 hm1 t1 t2 l1 l2 (by simp) (nt_loop hk2 k 0 (by omega)) o ?_ w2 w3
    rw [w1]
    congr 4
    exact propext ⟨fun h => h.1, fun h => ⟨h, .inl (by omega)⟩⟩
theorem times_all (a b : Int) (e : Bool) (c : Int) (ha : 0 ≤ a ∧ a ≤ 255) (hb : 0 ≤ b ∧ b ≤ 255) (hc : 0 ≤ c ∧ c ≤ 255) : evI (cfg 0) 0 6 [.int .u8 a, .int .u8 b, .bool e, .int .u8 c] [] = some (.bool true, []) := times_law ha.1 hb.1 hb.2 hc.1
end Go.Proofs.YtanopbolgfcojaaGreatDoor.E.SZ
