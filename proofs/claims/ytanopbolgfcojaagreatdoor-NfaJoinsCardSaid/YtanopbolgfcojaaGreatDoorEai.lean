/- Steps of the seat's proofs: an evaluator of the program's code, its soundness, and what the functions come to. -/
import Derived.Test.YtanopbolgfcojaaGreatDoorEah
import Derived.KernelRfl
set_option linter.unusedSimpArgs false
set_option linter.unusedVariables false
namespace Go.Proofs.YtanopbolgfcojaaGreatDoor.E.SZ.N
open Go Go.Proofs E E.R
abbrev r1St (pb:Nat) (k:Node) (kk:AV) (q:Nat) (more cnt:Int) (i:Nat):List TV:=[.v (.ptr pb 0),J, .v (AI q),J,J,J,J, .bx (nCells k kk), .v (AI more)]++List.replicate 53 J++[.v (AI cnt), .v (AI i)]++List.replicate 25 J
abbrev r1End (pb:Nat) (k:Node) (kk:AV) (q:Nat) (more:Int):List TV:=[.v (.ptr pb 0),J, .v (AI q),J,J,J,J, .bx (nCells k kk), .v (AI more)]++List.replicate 80 J
theorem r1_x {m:Int} {fl pb q i:Nat} {more cnt:Int} {hp:List Blk} {k:Node} {kk:AV} (hi:cnt≤i):LoopI (cfg m) fl 35 (bodyAt (cfg m) 35 12) 12 ⟨r1St pb k kk q more cnt i,hp⟩ (.exit 0) ⟨r1End pb k kk q more,hp⟩:=by
 exact loopEndC (.exit 0) (St.mk ([TV.v (AV.ptr pb 0),J,TV.v (AI q),J,J,J,J,TV.bx [AI k.kind,AW k.set.a.toNat,AW k.set.b.toNat,AW k.set.c.toNat,AW k.set.d.toNat,AI k.mn,AI k.mx,kk],TV.v (AI more)]++Jn 80) hp) [.b 12 0 (decide_eq_false ((show ¬(↑i:Int) < cnt from (by omega))))] (by kernel_rfl) (fun h=>by cases h) rfl
theorem r1_l {m:Int} {fl pb q q2 q3 qe i:Nat} {more cnt:Int} {hp h2 h3 he:List Blk} {k:Node} {kk:AV} (hi:(i:Int) < cnt) (hn:cnt≤1000000) (hb:evI (cfg m) fl 24 [.ptr pb 0,nAV k kk, .int .i64 (q:Int)] hp=some (natAV q2,h2)) (ha:evI (cfg m) fl 25 [.ptr pb 0, .int .i64 4, .agg [.int .u64 0, .int .u64 0, .int .u64 0, .int .u64 0], .lit 1 .exact [natAV q,natAV q2]] h2=some (natAV q3,h3)) (hc:LoopI (cfg m) fl 35 (bodyAt (cfg m) 35 12) 12 ⟨r1St pb k kk q3 more cnt (i + 1),h3⟩ (.exit 0) ⟨r1End pb k kk qe more,he⟩):LoopI (cfg m) fl 35 (bodyAt (cfg m) 35 12) 12 ⟨r1St pb k kk q more cnt i,hp⟩ (.exit 0) ⟨r1End pb k kk qe more,he⟩:=by
 exact loopStepC (St.mk ([TV.v (AV.ptr pb 0),J,TV.v (AI q3),J,J,J,J,TV.bx [AI k.kind,AW k.set.a.toNat,AW k.set.b.toNat,AW k.set.c.toNat,AW k.set.d.toNat,AI k.mn,AI k.mx,kk],TV.v (AI more),J,J,J,J,J,J,J,J,J,J,J,J,J,J,J,J,J,J,J,J,J,J,J,J,J,J,J,J,J,J,J,J,J,J,J,J,J,J,J,J,J,J,J,J,J,J,J,J,J,J,J,J,J,TV.v (AI cnt),TV.v (AI ((↑i:Int) + 1))]++Jn 25) h3) [.b 12 0 (decide_eq_true (hi)), .c 13 8 hb, .c 13 10 ha, .w 14 0 IntKind.i64 ((↑i:Int) + 1) (wrap_i64' (by omega))] (by kernel_rfl) hc rfl
abbrev r2St (pb:Nat) (k:Node) (kk:AV) (q:Nat) (more:Int) (i:Nat):List TV:=[.v (.ptr pb 0),J, .v (AI q),J,J,J,J, .bx (nCells k kk)]++List.replicate 72 J++[.v (AI more), .v (AI i)]++List.replicate 7 J
abbrev r2End (q:Nat):List TV:=[J,J, .v (AI q)]++List.replicate 86 J
theorem r2_x {m:Int} {fl pb q i:Nat} {more:Int} {hp:List Blk} {k:Node} {kk:AV} (hi:more≤i):LoopI (cfg m) fl 35 (bodyAt (cfg m) 35 18) 18 ⟨r2St pb k kk q more i,hp⟩ (.exit 2) ⟨r2End q,hp⟩:=by
 exact loopEndC (.exit 2) (St.mk ([J,J,TV.v (AI q)]++Jn 86) hp) [.b 18 0 (decide_eq_false ((show ¬(↑i:Int) < more from (by omega))))] (by kernel_rfl) (fun h=>by cases h) rfl
theorem r2_l {m:Int} {fl pb q q2 qe i:Nat} {more:Int} {hp h2 he:List Blk} {k:Node} {kk:AV} (hi:(i:Int) < more) (hn:more≤1000000) (hb:evI (cfg m) fl 24 [.ptr pb 0,nAV k kk, .int .i64 (q:Int)] hp=some (natAV q2,h2)) (hc:LoopI (cfg m) fl 35 (bodyAt (cfg m) 35 18) 18 ⟨r2St pb k kk q2 more (i + 1),h2⟩ (.exit 2) ⟨r2End qe,he⟩):LoopI (cfg m) fl 35 (bodyAt (cfg m) 35 18) 18 ⟨r2St pb k kk q more i,hp⟩ (.exit 2) ⟨r2End qe,he⟩:=by
 exact loopStepC (St.mk [TV.v (AV.ptr pb 0),J,TV.v (AI q2),J,J,J,J,TV.bx [AI k.kind,AW k.set.a.toNat,AW k.set.b.toNat,AW k.set.c.toNat,AW k.set.d.toNat,AI k.mn,AI k.mx,kk],J,J,J,J,J,J,J,J,J,J,J,J,J,J,J,J,J,J,J,J,J,J,J,J,J,J,J,J,J,J,J,J,J,J,J,J,J,J,J,J,J,J,J,J,J,J,J,J,J,J,J,J,J,J,J,J,J,J,J,J,J,J,J,J,J,J,J,J,J,J,J,J,TV.v (AI more),TV.v (AI ((↑i:Int) + 1)),J,J,J,J,J,J,J] h2) [.b 18 0 (decide_eq_true (hi)), .c 19 3 hb, .w 20 0 IntKind.i64 ((↑i:Int) + 1) (wrap_i64' (by omega))] (by kernel_rfl) hc rfl
theorem rp_f0 {m:Int} {fl pb q q1 qe:Nat} {hp h1 he:List Blk} {n k:Node} {ks kk:AV} {vs:List AV} {z:Int} (hx:IsSl 8 ks vs) (hv:vs[0]?=some (nAV k kk)) (hi:0 < vs.length) (hl:vs.length < 1000000) (hm:0≤n.mx) (hb1:n.mx≤1000000) (hb2:0≤n.mn) (hb3:n.mn≤1000000) (hs:∀ fl h,evI (cfg m) fl 22 [nAV k kk] h=some (.int .i64 z,h)) (hz:z≠0) (hc:LoopI (cfg m) fl 35 (bodyAt (cfg m) 35 12) 12 ⟨r1St pb k kk q n.mn (n.mx - n.mn) 0,hp⟩ (.exit 0) ⟨r1End pb k kk q1 n.mn,h1⟩) (hc2:LoopI (cfg m) fl 35 (bodyAt (cfg m) 35 18) 18 ⟨r2St pb k kk q1 n.mn 0,h1⟩ (.exit 2) ⟨r2End qe,he⟩):evI (cfg m) fl 35 [.ptr pb 0,nAV n ks, .int .i64 (q:Int)] hp=some (natAV qe,he):=by
 exact evX (AI qe) (he) [.a 1 2 (indexAddr_sl (C:=cfg m) (t:=41) (n:=0) hx (by kernel_rfl) (by omega) hv), .b 3 2 (decide_eq_false ((show ¬n.mx < 0 from (by omega)))), .w 11 4 IntKind.i64 (n.mx - n.mn) (wrap_i64' (by omega)), .l 12 hc, .c 15 1 (hs (fl) (h1)), .b 15 2 (beq_false_of_ne (hz)), .l 18 hc2] (by kernel_rfl) (tlK (by kernel_rfl) rfl) rfl
theorem rp_fz {m:Int} {fl pb q q1 qe:Nat} {hp h1 he:List Blk} {n k:Node} {ks kk:AV} {vs:List AV} {z:Int} (hx:IsSl 8 ks vs) (hv:vs[0]?=some (nAV k kk)) (hi:0 < vs.length) (hl:vs.length < 1000000) (hm:0≤n.mx) (hb1:n.mx≤1000000) (hb2:0≤n.mn) (hb3:n.mn≤1000000) (hs:∀ fl h,evI (cfg m) fl 22 [nAV k kk] h=some (.int .i64 z,h)) (hz:z=0) (hc:LoopI (cfg m) fl 35 (bodyAt (cfg m) 35 12) 12 ⟨r1St pb k kk q n.mn (n.mx - n.mn) 0,hp⟩ (.exit 0) ⟨r1End pb k kk q1 n.mn,h1⟩) (hc2:LoopI (cfg m) fl 35 (bodyAt (cfg m) 35 18) 18 ⟨r2St pb k kk q1 0 0,h1⟩ (.exit 2) ⟨r2End qe,he⟩):evI (cfg m) fl 35 [.ptr pb 0,nAV n ks, .int .i64 (q:Int)] hp=some (natAV qe,he):=by
 exact evX (AI qe) (he) [.a 1 2 (indexAddr_sl (C:=cfg m) (t:=41) (n:=0) hx (by kernel_rfl) (by omega) hv), .b 3 2 (decide_eq_false ((show ¬n.mx < 0 from (by omega)))), .w 11 4 IntKind.i64 (n.mx - n.mn) (wrap_i64' (by omega)), .l 12 hc, .c 15 1 (hs (fl) (h1)), .b 15 2 (beq_iff_eq.2 (hz)), .l 18 hc2] (by kernel_rfl) (tlK (by kernel_rfl) rfl) rfl
theorem rp_i0 {m:Int} {fl pb sb q lp bd len qe:Nat} {hp h1 h2 he:List Blk} {n k:Node} {ks kk:AV} {vs rows:List AV} {c1 c2 c3 c4 c5 x1 x2 x3 x4 x5 x6 x7 x8:AV} {first:Nat} {z:Int} (hx:IsSl 8 ks vs) (hv:vs[0]?=some (nAV k kk)) (hi:0 < vs.length) (hl:vs.length < 1000000) (hm:n.mx = -1) (hm0:n.mn=0) (hb3:n.mn≤1000000) (hs:∀ fl h,evI (cfg m) fl 22 [nAV k kk] h=some (.int .i64 z,h)) (hz:z≠0)  (ha:evI (cfg m) fl 25 [.ptr pb 0, .int .i64 4, .agg [.int .u64 0, .int .u64 0, .int .u64 0, .int .u64 0], .lit 1 .exact [natAV q]] hp=some (natAV lp,h1)) (hb:evI (cfg m) fl 24 [.ptr pb 0,nAV k kk, .int .i64 (lp:Int)] h1=some (natAV bd,h2)) (hpb:blkCells h2 pb=some (progB sb len x1 x2 x3 x4 x5 x6 x7 x8 first)) (hsb:blkCells h2 sb=some (flat rows)) (hag:AggN 6 rows) (hr:rows[lp]?=some (.agg [c1,c2,c3,c4,c5, .lit 1 .exact [natAV q]])) (hln:lp < len) (hlen:len < 1000000) (hf:fl≤sb) (hc2:LoopI (cfg m) fl 35 (bodyAt (cfg m) 35 18) 18 ⟨r2St pb k kk lp n.mn 0,setAt (h2++[.fam ([AV.int .i64 (q:Int)].length + [AV.int .i64 (bd:Int)].length)]) sb (.cells (flat (rows.set lp (.agg [c1,c2,c3,c4,c5, .lit 1 (.fam h2.length 0) [natAV q,natAV bd]]))))⟩ (.exit 2) ⟨r2End qe,he⟩):evI (cfg m) fl 35 [.ptr pb 0,nAV n ks, .int .i64 (q:Int)] hp=some (natAV qe,he):=by
 have zz0:=load_ok (C:=cfg m) (t:=50) (off:=0) (x:=AV.arr 6 sb 0 len) hpb (by kernel_rfl)
 exact evX (AI qe) (he) [.a 1 2 (indexAddr_sl (C:=cfg m) (t:=41) (n:=0) hx (by kernel_rfl) (by omega) hv), .b 3 2 (decide_eq_true ((show n.mx < 0 from (by omega)))), .c 4 6 ha, .c 5 3 hb, .m 6 4 zz0, .m 6 10 zz0, .a 6 12 (indexAddr_arr' (C:=cfg m) (t:=50) (sz:=6) (b:=sb) (off:=0) (len:=len) (o:=lp * 6) (n:=(↑lp:Int)) (by kernel_rfl) (by omega) (by omega) (by simp only [Int.toNat_natCast,Nat.zero_add,Nat.mul_one])), .m 6 14 (load_nx (m:=m) hsb hr hag), .a 6 18 (indexAddr_arr' (C:=cfg m) (t:=50) (sz:=6) (b:=sb) (off:=0) (len:=len) (o:=lp * 6) (n:=(↑lp:Int)) (by kernel_rfl) (by omega) (by omega) (by simp only [Int.toNat_natCast,Nat.zero_add,Nat.mul_one])), .t 6 20 (store_nx (m:=m) (a:=q) (b:=bd) (hp:=h2++[Blk.fam ([AI q].length + [AI bd].length)]) (o:=Own.fam h2.length 0) (blk_app hsb) hr hag hf), .b 8 2 (decide_eq_false ((show ¬n.mn > 0 from (by omega)))), .w 11 4 IntKind.i64 (n.mx - n.mn) (wrap_i64' (by omega)), .l 12 (r1_x (m:=m) (fl:=fl) (pb:=pb) (q:=lp) (i:=0) (more:=n.mn) (cnt:=n.mx - n.mn) (hp:=setAt (h2++[Blk.fam ([AI q].length + [AI bd].length)]) sb (BC (flat (rows.set lp (AV.agg [c1,c2,c3,c4,c5,AV.lit 1 (Own.fam h2.length 0) [natAV q,natAV bd]]))))) (k:=k) (kk:=kk) (by omega)), .c 15 1 (hs (fl) (setAt (h2++[Blk.fam ([AI q].length + [AI bd].length)]) sb (BC (flat (rows.set lp (AV.agg [c1,c2,c3,c4,c5,AV.lit 1 (Own.fam h2.length 0) [natAV q,natAV bd]])))))), .b 15 2 (beq_false_of_ne (hz)), .l 18 hc2] (by kernel_rfl) (tlK (by kernel_rfl) rfl) rfl
theorem rp_i0z {m:Int} {fl pb sb q lp bd len qe:Nat} {hp h1 h2 he:List Blk} {n k:Node} {ks kk:AV} {vs rows:List AV} {c1 c2 c3 c4 c5 x1 x2 x3 x4 x5 x6 x7 x8:AV} {first:Nat} {z:Int} (hx:IsSl 8 ks vs) (hv:vs[0]?=some (nAV k kk)) (hi:0 < vs.length) (hl:vs.length < 1000000) (hm:n.mx = -1) (hm0:n.mn=0) (hb3:n.mn≤1000000) (hs:∀ fl h,evI (cfg m) fl 22 [nAV k kk] h=some (.int .i64 z,h)) (hz:z=0)  (ha:evI (cfg m) fl 25 [.ptr pb 0, .int .i64 4, .agg [.int .u64 0, .int .u64 0, .int .u64 0, .int .u64 0], .lit 1 .exact [natAV q]] hp=some (natAV lp,h1)) (hb:evI (cfg m) fl 24 [.ptr pb 0,nAV k kk, .int .i64 (lp:Int)] h1=some (natAV bd,h2)) (hpb:blkCells h2 pb=some (progB sb len x1 x2 x3 x4 x5 x6 x7 x8 first)) (hsb:blkCells h2 sb=some (flat rows)) (hag:AggN 6 rows) (hr:rows[lp]?=some (.agg [c1,c2,c3,c4,c5, .lit 1 .exact [natAV q]])) (hln:lp < len) (hlen:len < 1000000) (hf:fl≤sb) (hc2:LoopI (cfg m) fl 35 (bodyAt (cfg m) 35 18) 18 ⟨r2St pb k kk lp 0 0,setAt (h2++[.fam ([AV.int .i64 (q:Int)].length + [AV.int .i64 (bd:Int)].length)]) sb (.cells (flat (rows.set lp (.agg [c1,c2,c3,c4,c5, .lit 1 (.fam h2.length 0) [natAV q,natAV bd]]))))⟩ (.exit 2) ⟨r2End qe,he⟩):evI (cfg m) fl 35 [.ptr pb 0,nAV n ks, .int .i64 (q:Int)] hp=some (natAV qe,he):=by
 have zz0:=load_ok (C:=cfg m) (t:=50) (off:=0) (x:=AV.arr 6 sb 0 len) hpb (by kernel_rfl)
 exact evX (AI qe) (he) [.a 1 2 (indexAddr_sl (C:=cfg m) (t:=41) (n:=0) hx (by kernel_rfl) (by omega) hv), .b 3 2 (decide_eq_true ((show n.mx < 0 from (by omega)))), .c 4 6 ha, .c 5 3 hb, .m 6 4 zz0, .m 6 10 zz0, .a 6 12 (indexAddr_arr' (C:=cfg m) (t:=50) (sz:=6) (b:=sb) (off:=0) (len:=len) (o:=lp * 6) (n:=(↑lp:Int)) (by kernel_rfl) (by omega) (by omega) (by simp only [Int.toNat_natCast,Nat.zero_add,Nat.mul_one])), .m 6 14 (load_nx (m:=m) hsb hr hag), .a 6 18 (indexAddr_arr' (C:=cfg m) (t:=50) (sz:=6) (b:=sb) (off:=0) (len:=len) (o:=lp * 6) (n:=(↑lp:Int)) (by kernel_rfl) (by omega) (by omega) (by simp only [Int.toNat_natCast,Nat.zero_add,Nat.mul_one])), .t 6 20 (store_nx (m:=m) (a:=q) (b:=bd) (hp:=h2++[Blk.fam ([AI q].length + [AI bd].length)]) (o:=Own.fam h2.length 0) (blk_app hsb) hr hag hf), .b 8 2 (decide_eq_false ((show ¬n.mn > 0 from (by omega)))), .w 11 4 IntKind.i64 (n.mx - n.mn) (wrap_i64' (by omega)), .l 12 (r1_x (m:=m) (fl:=fl) (pb:=pb) (q:=lp) (i:=0) (more:=n.mn) (cnt:=n.mx - n.mn) (hp:=setAt (h2++[Blk.fam ([AI q].length + [AI bd].length)]) sb (BC (flat (rows.set lp (AV.agg [c1,c2,c3,c4,c5,AV.lit 1 (Own.fam h2.length 0) [natAV q,natAV bd]]))))) (k:=k) (kk:=kk) (by omega)), .c 15 1 (hs (fl) (setAt (h2++[Blk.fam ([AI q].length + [AI bd].length)]) sb (BC (flat (rows.set lp (AV.agg [c1,c2,c3,c4,c5,AV.lit 1 (Own.fam h2.length 0) [natAV q,natAV bd]])))))), .b 15 2 (beq_iff_eq.2 (hz)), .l 18 hc2] (by kernel_rfl) (tlK (by kernel_rfl) rfl) rfl
theorem rp_i1 {m:Int} {fl pb sb q lp bd len qe:Nat} {hp h1 h2 he:List Blk} {n k:Node} {ks kk:AV} {vs rows:List AV} {c1 c2 c3 c4 c5 x1 x2 x3 x4 x5 x6 x7 x8:AV} {first:Nat} {z:Int} (hx:IsSl 8 ks vs) (hv:vs[0]?=some (nAV k kk)) (hi:0 < vs.length) (hl:vs.length < 1000000) (hm:n.mx = -1) (hm0:0 < n.mn) (hb3:n.mn≤1000000) (hs:∀ fl h,evI (cfg m) fl 22 [nAV k kk] h=some (.int .i64 z,h)) (hz:z≠0) (ha:evI (cfg m) fl 25 [.ptr pb 0, .int .i64 4, .agg [.int .u64 0, .int .u64 0, .int .u64 0, .int .u64 0], .lit 1 .exact [natAV q]] hp=some (natAV lp,h1)) (hb:evI (cfg m) fl 24 [.ptr pb 0,nAV k kk, .int .i64 (lp:Int)] h1=some (natAV bd,h2)) (hpb:blkCells h2 pb=some (progB sb len x1 x2 x3 x4 x5 x6 x7 x8 first)) (hsb:blkCells h2 sb=some (flat rows)) (hag:AggN 6 rows) (hr:rows[lp]?=some (.agg [c1,c2,c3,c4,c5, .lit 1 .exact [natAV q]])) (hln:lp < len) (hlen:len < 1000000) (hf:fl≤sb) (hc2:LoopI (cfg m) fl 35 (bodyAt (cfg m) 35 18) 18 ⟨r2St pb k kk bd (n.mn - 1) 0,setAt (h2++[.fam ([AV.int .i64 (q:Int)].length + [AV.int .i64 (bd:Int)].length)]) sb (.cells (flat (rows.set lp (.agg [c1,c2,c3,c4,c5, .lit 1 (.fam h2.length 0) [natAV q,natAV bd]]))))⟩ (.exit 2) ⟨r2End qe,he⟩):evI (cfg m) fl 35 [.ptr pb 0,nAV n ks, .int .i64 (q:Int)] hp=some (natAV qe,he):=by
 have zz0:=load_ok (C:=cfg m) (t:=50) (off:=0) (x:=AV.arr 6 sb 0 len) hpb (by kernel_rfl)
 exact evX (AI qe) (he) [.a 1 2 (indexAddr_sl (C:=cfg m) (t:=41) (n:=0) hx (by kernel_rfl) (by omega) hv), .b 3 2 (decide_eq_true ((show n.mx < 0 from (by omega)))), .c 4 6 ha, .c 5 3 hb, .m 6 4 zz0, .m 6 10 zz0, .a 6 12 (indexAddr_arr' (C:=cfg m) (t:=50) (sz:=6) (b:=sb) (off:=0) (len:=len) (o:=lp * 6) (n:=(↑lp:Int)) (by kernel_rfl) (by omega) (by omega) (by simp only [Int.toNat_natCast,Nat.zero_add,Nat.mul_one])), .m 6 14 (load_nx (m:=m) hsb hr hag), .a 6 18 (indexAddr_arr' (C:=cfg m) (t:=50) (sz:=6) (b:=sb) (off:=0) (len:=len) (o:=lp * 6) (n:=(↑lp:Int)) (by kernel_rfl) (by omega) (by omega) (by simp only [Int.toNat_natCast,Nat.zero_add,Nat.mul_one])), .t 6 20 (store_nx (m:=m) (a:=q) (b:=bd) (hp:=h2++[Blk.fam ([AI q].length + [AI bd].length)]) (o:=Own.fam h2.length 0) (blk_app hsb) hr hag hf), .b 8 2 (decide_eq_true (hm0)), .w 10 1 IntKind.i64 (n.mn - 1) (wrap_i64' (by omega)), .w 11 4 IntKind.i64 (n.mx - n.mn) (wrap_i64' (by omega)), .l 12 (r1_x (m:=m) (fl:=fl) (pb:=pb) (q:=bd) (i:=0) (more:=n.mn - 1) (cnt:=n.mx - n.mn) (hp:=setAt (h2++[Blk.fam ([AI q].length + [AI bd].length)]) sb (BC (flat (rows.set lp (AV.agg [c1,c2,c3,c4,c5,AV.lit 1 (Own.fam h2.length 0) [natAV q,natAV bd]]))))) (k:=k) (kk:=kk) (by omega)), .c 15 1 (hs (fl) (setAt (h2++[Blk.fam ([AI q].length + [AI bd].length)]) sb (BC (flat (rows.set lp (AV.agg [c1,c2,c3,c4,c5,AV.lit 1 (Own.fam h2.length 0) [natAV q,natAV bd]])))))), .b 15 2 (beq_false_of_ne (hz)), .l 18 hc2] (by kernel_rfl) (tlK (by kernel_rfl) rfl) rfl
theorem rp_iz {m:Int} {fl pb sb q lp bd len qe:Nat} {hp h1 h2 he:List Blk} {n k:Node} {ks kk:AV} {vs rows:List AV} {c1 c2 c3 c4 c5 x1 x2 x3 x4 x5 x6 x7 x8:AV} {first:Nat} {z:Int} (hx:IsSl 8 ks vs) (hv:vs[0]?=some (nAV k kk)) (hi:0 < vs.length) (hl:vs.length < 1000000) (hm:n.mx = -1) (hm0:0 < n.mn) (hb3:n.mn≤1000000) (hs:∀ fl h,evI (cfg m) fl 22 [nAV k kk] h=some (.int .i64 z,h)) (hz:z=0) (ha:evI (cfg m) fl 25 [.ptr pb 0, .int .i64 4, .agg [.int .u64 0, .int .u64 0, .int .u64 0, .int .u64 0], .lit 1 .exact [natAV q]] hp=some (natAV lp,h1)) (hb:evI (cfg m) fl 24 [.ptr pb 0,nAV k kk, .int .i64 (lp:Int)] h1=some (natAV bd,h2)) (hpb:blkCells h2 pb=some (progB sb len x1 x2 x3 x4 x5 x6 x7 x8 first)) (hsb:blkCells h2 sb=some (flat rows)) (hag:AggN 6 rows) (hr:rows[lp]?=some (.agg [c1,c2,c3,c4,c5, .lit 1 .exact [natAV q]])) (hln:lp < len) (hlen:len < 1000000) (hf:fl≤sb) (hc2:LoopI (cfg m) fl 35 (bodyAt (cfg m) 35 18) 18 ⟨r2St pb k kk bd 0 0,setAt (h2++[.fam ([AV.int .i64 (q:Int)].length + [AV.int .i64 (bd:Int)].length)]) sb (.cells (flat (rows.set lp (.agg [c1,c2,c3,c4,c5, .lit 1 (.fam h2.length 0) [natAV q,natAV bd]]))))⟩ (.exit 2) ⟨r2End qe,he⟩):evI (cfg m) fl 35 [.ptr pb 0,nAV n ks, .int .i64 (q:Int)] hp=some (natAV qe,he):=by
 have zz0:=load_ok (C:=cfg m) (t:=50) (off:=0) (x:=AV.arr 6 sb 0 len) hpb (by kernel_rfl)
 exact evX (AI qe) (he) [.a 1 2 (indexAddr_sl (C:=cfg m) (t:=41) (n:=0) hx (by kernel_rfl) (by omega) hv), .b 3 2 (decide_eq_true ((show n.mx < 0 from (by omega)))), .c 4 6 ha, .c 5 3 hb, .m 6 4 zz0, .m 6 10 zz0, .a 6 12 (indexAddr_arr' (C:=cfg m) (t:=50) (sz:=6) (b:=sb) (off:=0) (len:=len) (o:=lp * 6) (n:=(↑lp:Int)) (by kernel_rfl) (by omega) (by omega) (by simp only [Int.toNat_natCast,Nat.zero_add,Nat.mul_one])), .m 6 14 (load_nx (m:=m) hsb hr hag), .a 6 18 (indexAddr_arr' (C:=cfg m) (t:=50) (sz:=6) (b:=sb) (off:=0) (len:=len) (o:=lp * 6) (n:=(↑lp:Int)) (by kernel_rfl) (by omega) (by omega) (by simp only [Int.toNat_natCast,Nat.zero_add,Nat.mul_one])), .t 6 20 (store_nx (m:=m) (a:=q) (b:=bd) (hp:=h2++[Blk.fam ([AI q].length + [AI bd].length)]) (o:=Own.fam h2.length 0) (blk_app hsb) hr hag hf), .b 8 2 (decide_eq_true (hm0)), .w 10 1 IntKind.i64 (n.mn - 1) (wrap_i64' (by omega)), .w 11 4 IntKind.i64 (n.mx - n.mn) (wrap_i64' (by omega)), .l 12 (r1_x (m:=m) (fl:=fl) (pb:=pb) (q:=bd) (i:=0) (more:=n.mn - 1) (cnt:=n.mx - n.mn) (hp:=setAt (h2++[Blk.fam ([AI q].length + [AI bd].length)]) sb (BC (flat (rows.set lp (AV.agg [c1,c2,c3,c4,c5,AV.lit 1 (Own.fam h2.length 0) [natAV q,natAV bd]]))))) (k:=k) (kk:=kk) (by omega)), .c 15 1 (hs (fl) (setAt (h2++[Blk.fam ([AI q].length + [AI bd].length)]) sb (BC (flat (rows.set lp (AV.agg [c1,c2,c3,c4,c5,AV.lit 1 (Own.fam h2.length 0) [natAV q,natAV bd]])))))), .b 15 2 (beq_iff_eq.2 (hz)), .l 18 hc2] (by kernel_rfl) (tlK (by kernel_rfl) rfl) rfl
abbrev BF:Type:=Node→Nat→List NS→Nat × List NS
def catB (f:BF):List Node→Nat→List NS→Nat × List NS
 | [],q,st=>(q,st)
 | k::ks,q,st=>catB f ks (f k q st).1 (f k q st).2
def altB (f:BF) (q:Nat):List Node→List Nat→List NS→List Nat × List NS
 | [],all,st=>(all,st)
 | k::ks,all,st=>altB f q ks (all++[(f k q st).1]) (f k q st).2
def optB (f:BF) (k:Node):Nat→Nat→List NS→Nat × List NS
 | 0,q,st=>(q,st)
 | c + 1,q,st=>optB f k c (f k q st).2.length ((f k q st).2++[⟨4,W4.zero,[q,(f k q st).1]⟩])
def moreB (f:BF) (k:Node):Nat→Nat→List NS→Nat × List NS
 | 0,q,st=>(q,st)
 | c + 1,q,st=>moreB f k c (f k q st).1 (f k q st).2
def loopB (f:BF) (k:Node) (q:Nat) (st:List NS):Nat × List NS :=
 ((f k st.length (st++[⟨4,W4.zero,[q]⟩])).1,(f k st.length (st++[⟨4,W4.zero,[q]⟩])).2.set st.length ⟨4,W4.zero,[q,(f k st.length (st++[⟨4,W4.zero,[q]⟩])).1]⟩)
def repB (f:BF) (mn mx:Int) (k:Node) (q:Nat) (st:List NS):Nat × List NS :=
 if mx < 0 then
  if mn=0 then (st.length,(loopB f k q st).2)
  else moreB f k (if k.size=0 then 0 else (mn - 1).toNat) (loopB f k q st).1 (loopB f k q st).2
 else moreB f k (if k.size=0 then 0 else mn.toNat) (optB f k (mx - mn).toNat q st).1 (optB f k (mx - mn).toNat q st).2
def buildF:Nat→BF
 | 0,_,q,st=>(q,st)
 | d + 1,n,q,st =>
  if n.size=0 then (q,st)
  else if n.kind=1 then (st.length,st++[⟨1,n.set,[q]⟩])
  else if n.kind=2 then (st.length,st++[⟨2,W4.zero,[q]⟩])
  else if n.kind=3 then (st.length,st++[⟨3,W4.zero,[q]⟩])
  else if n.kind=4 then catB (buildF d) n.kids.reverse q st
  else if n.kind=5 then ((altB (buildF d) q n.kids [] st).2.length,(altB (buildF d) q n.kids [] st).2++[⟨4,W4.zero,(altB (buildF d) q n.kids [] st).1⟩])
  else match n.kids with
   | k::_=>repB (buildF d) n.mn n.mx k q st
   | []=>(q,st)
def Adds (f:BF):Prop:=∀ k q st,∃ x,(f k q st).2=st++x
theorem catB_adds {f:BF} (h:Adds f):∀ (l:List Node) (q:Nat) (st:List NS),∃ x,(catB f l q st).2=st++x
 | [],_,_=>⟨[],by simp [catB]⟩
 | k::l,q,st=>by
  obtain ⟨x,e⟩:=h k q st
  obtain ⟨y,g⟩:=catB_adds h l (f k q st).1 (f k q st).2
  exact ⟨x++y,by rw [catB,g,e,List.append_assoc]⟩
theorem altB_adds {f:BF} (h:Adds f) (q:Nat):∀ (l:List Node) (a:List Nat) (st:List NS),∃ x,(altB f q l a st).2=st++x
 | [],_,_=>⟨[],by simp [altB]⟩
 | k::l,a,st=>by
  obtain ⟨x,e⟩:=h k q st
  obtain ⟨y,g⟩:=altB_adds h q l (a++[(f k q st).1]) (f k q st).2
  exact ⟨x++y,by rw [altB,g,e,List.append_assoc]⟩
theorem optB_adds {f:BF} (h:Adds f) (k:Node):∀ (c q:Nat) (st:List NS),∃ x,(optB f k c q st).2=st++x
 | 0,_,_=>⟨[],by simp [optB]⟩
 | c + 1,q,st=>by
  obtain ⟨x,e⟩:=h k q st
  obtain ⟨y,g⟩:=optB_adds h k c (f k q st).2.length ((f k q st).2++[⟨4,W4.zero,[q,(f k q st).1]⟩])
  exact ⟨x++(⟨4,W4.zero,[q,(f k q st).1]⟩::y),by rw [optB,g,e];simp⟩
theorem moreB_adds {f:BF} (h:Adds f) (k:Node):∀ (c q:Nat) (st:List NS),∃ x,(moreB f k c q st).2=st++x
 | 0,_,_=>⟨[],by simp [moreB]⟩
 | c + 1,q,st=>by
  obtain ⟨x,e⟩:=h k q st
  obtain ⟨y,g⟩:=moreB_adds h k c (f k q st).1 (f k q st).2
  exact ⟨x++y,by rw [moreB,g,e,List.append_assoc]⟩
theorem loopB_adds {f:BF} (h:Adds f) (k:Node) (q:Nat) (st:List NS):∃ x,(loopB f k q st).2=st++x:=by
 obtain ⟨x,e⟩:=h k st.length (st++[⟨4,W4.zero,[q]⟩])
 refine ⟨⟨4,W4.zero,[q,(f k st.length (st++[⟨4,W4.zero,[q]⟩])).1]⟩::x, ?_⟩
 unfold loopB
 rw [e]
 simp
theorem repB_adds {f:BF} (h:Adds f) (mn mx:Int) (k:Node) (q:Nat) (st:List NS):∃ x,(repB f mn mx k q st).2=st++x:=by
 unfold repB
 split
 ·obtain ⟨x,e⟩:=loopB_adds h k q st
  split
  ·exact ⟨x,e⟩
  ·obtain ⟨y,g⟩:=moreB_adds h k (if k.size=0 then 0 else (mn - 1).toNat) (loopB f k q st).1 (loopB f k q st).2
   exact ⟨x++y,by rw [g,e,List.append_assoc]⟩
 ·obtain ⟨x,e⟩:=optB_adds h k (mx - mn).toNat q st
  obtain ⟨y,g⟩:=moreB_adds h k (if k.size=0 then 0 else mn.toNat) (optB f k (mx - mn).toNat q st).1 (optB f k (mx - mn).toNat q st).2
  exact ⟨x++y,by rw [g,e,List.append_assoc]⟩
theorem buildF_adds:∀ d,Adds (buildF d)
 | 0=>fun k q st=>⟨[],by simp [buildF]⟩
 | d + 1=>fun n q st=>by
  have ih:=buildF_adds d
  unfold buildF
  split; · exact ⟨[],by simp⟩
  split; · exact ⟨_,rfl⟩
  split; · exact ⟨_,rfl⟩
  split; · exact ⟨_,rfl⟩
  split; · exact catB_adds ih _ _ _
  split
  ·obtain ⟨x,e⟩:=altB_adds ih q n.kids [] st
   exact ⟨x++[⟨4,W4.zero,(altB (buildF d) q n.kids [] st).1⟩],by rw [e];simp⟩
  ·split
   ·exact repB_adds ih _ _ _ _ _
   ·exact ⟨[],by simp⟩
def Bd (m:Int) (fl pb:Nat) (f:BF) (k:Node) (kk:AV):Prop:=∀ {q:Nat} {hp:List Blk} {sb:Nat} {p:Px} {st:List NS},PS fl pb sb hp p st→(f k q st).2.length < 1000000 →
 ∃ hp' sb',evI (cfg m) fl 24 [.ptr pb 0,nAV k kk, .int .i64 (q:Int)] hp=some (natAV (f k q st).1,hp')∧PS fl pb sb' hp' p (f k q st).2∧FrX pb sb sb' hp hp'
theorem len_le {α:Type} {a b:List α} (h:∃ x,b=a++x):a.length≤b.length:=by
 obtain ⟨x,rfl⟩:=h;simp
theorem more_lp {m:Int} {fl pb:Nat} {f:BF} (hf:Adds f) {k:Node} {kk:AV} (hb:Bd m fl pb f k kk):∀ (c i:Nat) {q:Nat} {hp:List Blk} {sb:Nat} {p:Px} {st:List NS} {more:Int},more=((i + c:Nat):Int)→more≤1000000→PS fl pb sb hp p st→(moreB f k c q st).2.length < 1000000 →
  ∃ he sb',LoopI (cfg m) fl 35 (bodyAt (cfg m) 35 18) 18 ⟨r2St pb k kk q more i,hp⟩ (.exit 2) ⟨r2End (moreB f k c q st).1,he⟩∧PS fl pb sb' he p (moreB f k c q st).2∧FrX pb sb sb' hp he
 | 0,i,q,hp,sb,p,st,more,hm,_,hp1,_=>⟨hp,sb,r2_x (by omega),hp1, .refl _ _ _⟩
 | c + 1,i,q,hp,sb,p,st,more,hm,hm1,hp1,hl=>by
  rw [moreB] at hl
  have g:=len_le (moreB_adds hf k c (f k q st).1 (f k q st).2)
  obtain ⟨h1,s1,e1,p1,x1⟩:=hb (q:=q) hp1 (by omega)
  obtain ⟨h2,s2,e2,p2,x2⟩:=more_lp hf hb c (i + 1) (more:=more) (by omega) hm1 p1 hl
  refine ⟨h2,s2, ?_,p2,x1.trans x2⟩
  exact r2_l (by omega) hm1 e1 e2
theorem opt_lp {m:Int} {fl pb:Nat} {f:BF} (hf:Adds f) {k:Node} {kk:AV} (hb:Bd m fl pb f k kk) {mo:Int}:∀ (c i:Nat) {q:Nat} {hp:List Blk} {sb:Nat} {p:Px} {st:List NS} {cnt:Int},cnt=((i + c:Nat):Int)→cnt≤1000000→PS fl pb sb hp p st→(optB f k c q st).2.length < 1000000 →
  ∃ he sb',LoopI (cfg m) fl 35 (bodyAt (cfg m) 35 12) 12 ⟨r1St pb k kk q mo cnt i,hp⟩ (.exit 0) ⟨r1End pb k kk (optB f k c q st).1 mo,he⟩∧PS fl pb sb' he p (optB f k c q st).2∧FrX pb sb sb' hp he
 | 0,i,q,hp,sb,p,st,more,hm,_,hp1,_=>⟨hp,sb,r1_x (by omega),hp1, .refl _ _ _⟩
 | c + 1,i,q,hp,sb,p,st,more,hm,hm1,hp1,hl=>by
  rw [optB] at hl
  have g:=len_le (optB_adds hf k c (f k q st).2.length ((f k q st).2++[⟨4,W4.zero,[q,(f k q st).1]⟩]))
  have g2:((f k q st).2++[(⟨4,W4.zero,[q,(f k q st).1]⟩:NS)]).length=(f k q st).2.length + 1:=by simp
  obtain ⟨h1,s1,e1,p1,x1⟩:=hb (q:=q) hp1 (by omega)
  obtain ⟨h2,s2,e2,p2,x2⟩:=add_ps (m:=m) (k:=4) (s:=W4.zero) (nx := .lit 1 .exact [natAV q,natAV (f k q st).1]) (next:=[q,(f k q st).1]) p1 ⟨.lit _ _ _,fun h=>by simp at h⟩ (by omega)
  obtain ⟨h3,s3,e3,p3,x3⟩:=opt_lp hf hb (mo:=mo) c (i + 1) (cnt:=more) (by omega) hm1 p2 hl
  refine ⟨h3,s3, ?_,p3,(x1.trans x2).trans x3⟩
  exact r1_l (by omega) hm1 e1 e2 e3
theorem cat_lp {m:Int} {fl pb:Nat} {f:BF} (hf:Adds f) {n:Node} {kids:List Node} {ks:AV} {vs:List AV} (hx:IsSl 8 ks vs) (hR:NodesR kids vs) (hl:vs.length < 1000000) (hb:∀ k ∈ kids,∀ kk,KidsR k.kids kk→Bd m fl pb f k kk):∀ (i:Nat) {q:Nat} {hp:List Blk} {sb:Nat} {p:Px} {st:List NS},i≤kids.length→PS fl pb sb hp p st→(catB f (kids.take i).reverse q st).2.length < 1000000 →
  ∃ he sb',LoopI (cfg m) fl 24 (bodyAt (cfg m) 24 12) 12 ⟨catSt pb n ks q ((i:Int) - 1),hp⟩ (.exit 1) ⟨catEnd (catB f (kids.take i).reverse q st).1,he⟩∧PS fl pb sb' he p (catB f (kids.take i).reverse q st).2∧FrX pb sb sb' hp he
 | 0,q,hp,sb,p,st,_,hp1,_=>⟨hp,sb,cat_x (by omega),hp1, .refl _ _ _⟩
 | i + 1,q,hp,sb,p,st,hi,hp1,hs=>by
  have hk:kids[i]?=some kids[i]:=List.getElem?_eq_getElem (by omega)
  have e0:(kids.take (i + 1)).reverse=kids[i]::(kids.take i).reverse:=by
   rw [List.take_add_one,hk];simp
  rw [e0] at hs ⊢
  rw [catB] at hs ⊢
  have g:=len_le (catB_adds hf (kids.take i).reverse (f kids[i] q st).1 (f kids[i] q st).2)
  obtain ⟨kk,hv,hkk⟩:=hR.get hk
  obtain ⟨h1,s1,e1,p1,x1⟩:=hb kids[i] (List.getElem_mem _) kk hkk (q:=q) hp1 (by omega)
  obtain ⟨h2,s2,e2,p2,x2⟩:=cat_lp hf hx hR hl hb i (by omega) p1 hs
  refine ⟨h2,s2, ?_,p2,x1.trans x2⟩
  have hr:=hR.1
  rw [show (((i + 1:Nat):Int) - 1)=(i:Int) by omega]
  exact cat_l hx hv (by omega) hl e1 e2
theorem append_grX {C:Cfg} {fl N sz bytes:Nat} {hp:List Blk} {x y:AV} {vs ws:List AV} {t:TypeId} (h:Gr N sz hp x vs) (hy:elems hp sz y=some ws) (hya:isArr y=false) (ht:elT C t sz bytes=true) (hw:ws≠[]) (hl:(vs.length + ws.length) * bytes≤35184372088832) (hf:fl≤N) (hN:N≤hp.length) :
  ∃ x' hp',(∀ ts,builtinE C fl false ⟨ts,hp⟩ .append [t,t] [x,y]=some ⟨.v x',ts,hp', .fw⟩)∧Gr N sz hp' x' (vs++ws)∧FrC [] hp hp'∧hp.length≤hp'.length∧∀ c,c < N→getAt hp' c=getAt hp c:=by
 obtain ⟨e,a,b,c,d,ei,h1,h2,rfl,rfl,h5,h6⟩:=elT_ty ht
 have hk:(ws.length==0)=false:=by simpa using hw
 have k5:(ei.size==0)=false:=by simpa using h5
 have k6:(ei.bytes==0)=false:=by simpa using h6
 rcases h with ⟨rfl,rfl⟩ | ⟨g,rfl,h3,h4⟩
 ·refine ⟨.lit ei.size (.fam hp.length 0) ws,hp++[.fam ws.length],fun ts => ?_, .inr ⟨hp.length,by simp, ?_,hN⟩, .app _ _ _,by simp,fun c hc=>getAt_app_lt (by omega)⟩
  ·simp only [List.length_nil,Nat.zero_add] at hl
   have n1:elems hp ei.size .nilS=some []:=rfl
   have n2:isArr .nilS=false:=rfl
   have n3:isSlc .nilS=true:=rfl
   simp [builtinE,appendE,appElems,h1,h2,hy,hl,k5,k6,hk,n1,n2,n3,hya]
  ·rw [getAt_eq,List.getElem?_append_right (Nat.le_refl _),Nat.sub_self];simp
 ·refine ⟨.lit ei.size (.fam g 0) (vs++ws),setAt hp g (.fam (vs.length + ws.length)),fun ts => ?_, .inr ⟨g,rfl, ?_,h4⟩, .setFam (by unfold blkCells;rw [h3]),by rw [setAt_length];exact Nat.le_refl _,fun c hc=>getAt_set_ne (by omega)⟩
  ·have n1:elems hp ei.size (.lit ei.size (.fam g 0) vs)=some vs:=by simp [elems]
   have n2:isArr (.lit ei.size (.fam g 0) vs)=false:=rfl
   have n3:isSlc (.lit ei.size (.fam g 0) vs)=true:=rfl
   have h4':fl≤g:=by omega
   simp [builtinE,appendE,appElems,h1,h2,hy,hl,k5,k6,hk,n1,n2,n3,h3,h4',hya]
  ·rw [getAt_eq,setAt_eq,List.getElem?_set_self]
   ·simp
   ·rw [getAt_eq] at h3;exact (List.getElem?_eq_some_iff.1 h3).1
theorem append_natX {m:Int} {fl N k:Nat} {hp:List Blk} {x:AV} {l:List Nat} (h:Gr N 1 hp x (l.map natAV)) (hl:l.length < 1000000) (hf:fl≤N) (hN:N≤hp.length) :
  ∃ x' hp',(∀ ts,builtinE (cfg m) fl false ⟨ts,hp⟩ .append [67,67] [x, .lit 1 .exact [natAV k]]=some ⟨.v x',ts,hp', .fw⟩)∧Gr N 1 hp' x' ((l++[k]).map natAV)∧FrC [] hp hp'∧hp.length≤hp'.length∧∀ c,c < N→getAt hp' c=getAt hp c:=by
 obtain ⟨x',hp',h1,h2,h3⟩:=append_grX (C:=cfg m) (fl:=fl) (t:=67) (y := .lit 1 .exact [natAV k]) (ws:=[natAV k]) (bytes:=8) h (by rfl) rfl (by kernel_rfl) (by simp) (by simp;omega) hf hN
 exact ⟨x',hp',h1,by simpa using h2,h3⟩
theorem PS.frC {fl pb sb:Nat} {hp hp':List Blk} {p:Px} {st:List NS} (h:PS fl pb sb hp p st) (hf:FrC [] hp hp'):PS fl pb sb hp' p st:=by
 obtain ⟨rows,h1,h2,h3,h4⟩:=h
 exact ⟨rows,hf.2 pb _ (by simp) h1,hf.2 sb _ (by simp) h2,h3,h4⟩
theorem Gr.frX {N sz pb sb sb' fl:Nat} {hp hp':List Blk} {x:AV} {vs:List AV} {p:Px} {st:List NS} (h:Gr N sz hp x vs) (hp1:PS fl pb sb hp p st) (hf:FrX pb sb sb' hp hp'):Gr N sz hp' x vs:=by
 obtain ⟨rows,h1,h2,_⟩:=hp1
 rcases h with h | ⟨g,rfl,h3,h4⟩
 ·exact .inl h
 ·refine .inr ⟨g,rfl, ?_,h4⟩
  rw [hf.2.2 g (getAt_lt h3) ?_ ?_]
  ·exact h3
  ·rintro rfl;unfold blkCells at h1;rw [h3] at h1;cases h1
  ·rintro rfl;unfold blkCells at h2;rw [h3] at h2;cases h2
theorem FrX.ext {pb s0 s1:Nat} {a b c:List Blk} (h:FrX pb s0 s1 a b) (hl:b.length≤c.length) (hc:∀ x,x < a.length→getAt c x=getAt b x):FrX pb s0 s1 a c :=
 ⟨Nat.le_trans h.1 hl,h.2.1,fun x hx h1 h2=>(hc x hx).trans (h.2.2 x hx h1 h2)⟩
theorem alt_lp {m:Int} {fl pb q:Nat} {f:BF} (hf:Adds f) {kids:List Node} {ks:AV} {vs:List AV} (hx:IsSl 8 ks vs) (hR:NodesR kids vs) (hl:vs.length < 1000000) (hb:∀ k ∈ kids,∀ kk,KidsR k.kids kk→Bd m fl pb f k kk) {hp0:List Blk} {sb0:Nat} (hfl:fl≤hp0.length):∀ (r:List Node) (i:Nat) {x:AV} {all:List Nat} {hp:List Blk} {sb:Nat} {p:Px} {st:List NS},kids.drop i=r→all.length + r.length < 1000000→Gr hp0.length 1 hp x (all.map natAV)→FrX pb sb0 sb hp0 hp→PS fl pb sb hp p st→(altB f q r all st).2.length < 1000000 →
  ∃ he sb' xe,LoopI (cfg m) fl 24 (bodyAt (cfg m) 24 18) 18 ⟨altSt pb q x ks vs.length i,hp⟩ (.exit 3) ⟨altEnd pb xe,he⟩∧PS fl pb sb' he p (altB f q r all st).2∧Gr hp0.length 1 he xe ((altB f q r all st).1.map natAV)∧FrX pb sb0 sb' hp0 he
 | [],i,x,all,hp,sb,p,st,hd,_,hg,hfr,hp1,_=>by
  have:=hR.1
  have hi:kids.length≤i:=by simpa using hd
  exact ⟨hp,sb,x,alt_x (by omega),hp1,hg,hfr⟩
 | k::r,i,x,all,hp,sb,p,st,hd,hal,hg,hfr,hp1,hs=>by
  have hk:kids[i]?=some k:=by have:=congrArg (·[0]?) hd;simpa using this
  have hi:i < kids.length:=(List.getElem?_eq_some_iff.1 hk).1
  have hd':kids.drop (i + 1)=r:=by rw [← List.drop_drop,hd];rfl
  rw [altB] at hs ⊢
  have g:=len_le (altB_adds hf q r (all++[(f k q st).1]) (f k q st).2)
  obtain ⟨kk,hv,hkk⟩:=hR.get hk
  obtain ⟨h1,s1,e1,p1,x1⟩:=hb k (List.mem_of_getElem? hk) kk hkk (q:=q) hp1 (by omega)
  have hg1:=Gr.frX hg hp1 x1
  have fr1:=hfr.trans x1
  simp only [List.length_cons] at hal
  obtain ⟨x2,h2,e2,g2,c2,l2,b2⟩:=append_natX (m:=m) (fl:=fl) (k:=(f k q st).1) hg1 (by omega) hfl fr1.1
  obtain ⟨he,s3,xe,e3,p3,g3,f3⟩:=alt_lp hf hx hR hl hb hfl r (i + 1) hd' (by simp;omega) g2 (fr1.ext l2 b2) (p1.frC c2) hs
  have hr:=hR.1
  exact ⟨he,s3,xe,alt_l hx hv (by omega) hl rfl e1 e2 e3,p3,g3,f3⟩
theorem altB_len {f:BF} {q:Nat}:∀ (r:List Node) (all:List Nat) (st:List NS),(altB f q r all st).1.length=all.length + r.length
 | [],_,_=>by simp [altB]
 | k::r,all,st=>by rw [altB,altB_len r];simp;omega
theorem patch_ps {fl pb sb lp q:Nat} {h2:List Blk} {p:Px} {st:List NS} (h:PS fl pb sb h2 p st) (hk:st[lp]?=some ⟨4,W4.zero,[q]⟩) :
  ∃ rows c1 c2 c3 c4 c5,blkCells h2 pb=some (p.B sb st.length)∧blkCells h2 sb=some (flat rows)∧AggN 6 rows∧rows[lp]?=some (.agg [c1,c2,c3,c4,c5, .lit 1 .exact [natAV q]])∧lp < st.length∧fl≤sb∧∀ bd,PS fl pb sb (setAt (h2++[.fam ([AV.int .i64 (q:Int)].length + [AV.int .i64 (bd:Int)].length)]) sb (.cells (flat (rows.set lp (.agg [c1,c2,c3,c4,c5, .lit 1 (.fam h2.length 0) [natAV q,natAV bd]]))))) p (st.set lp ⟨4,W4.zero,[q,bd]⟩)∧FrX pb sb sb h2 (setAt (h2++[.fam ([AV.int .i64 (q:Int)].length + [AV.int .i64 (bd:Int)].length)]) sb (.cells (flat (rows.set lp (.agg [c1,c2,c3,c4,c5, .lit 1 (.fam h2.length 0) [natAV q,natAV bd]]))))):=by
 obtain ⟨rows,k1,k2,k3,k4,k5,k6⟩:=h
 obtain ⟨v,hv,nx,rfl,n1,n2⟩:=k3.2 lp _ hk
 have hn:nx = .lit 1 .exact [natAV q]:=n2 rfl
 subst hn
 have hlp:lp < st.length:=(List.getElem?_eq_some_iff.1 hk).1
 have b1:=blk_lt k1
 have b2:=blk_lt k2
 refine ⟨rows,_,_,_,_,_,k1,k2,k3.agg,hv,hlp,k6,fun bd=>⟨⟨_, ?_, ?_,k3.set ⟨_,rfl, .lit _ (.fam h2.length 0) _,fun h=>by simp at h⟩,k4,k5,k6⟩, ?_⟩⟩
 ·rw [List.length_set]
  exact blk_set_ne (Ne.symm k4) (blk_app k1)
 ·exact blk_set (by simp;omega)
 ·refine ⟨by rw [setAt_length];simp, .inl rfl,fun c hc c1 c2 => ?_⟩
  rw [getAt_set_ne c2,getAt_app_lt hc]
theorem rep_ok {m:Int} {fl pb:Nat} {f:BF} (hf:Adds f) {n k:Node} {ks kk:AV} {vs:List AV} (hx:IsSl 8 ks vs) (hv:vs[0]?=some (nAV k kk)) (hl:vs.length < 1000000) (h0:0≤n.mn) (h1:n.mn≤20) (h2:n.mx = -1∨n.mn≤n.mx∧n.mx≤20) (hs:∀ fl h,evI (cfg m) fl 22 [nAV k kk] h=some (.int .i64 k.size,h)) (hb:Bd m fl pb f k kk) {q:Nat} {hp:List Blk} {sb:Nat} {p:Px} {st:List NS} (hp1:PS fl pb sb hp p st) (hst:(repB f n.mn n.mx k q st).2.length < 1000000) :
  ∃ hp' sb',evI (cfg m) fl 35 [.ptr pb 0,nAV n ks, .int .i64 (q:Int)] hp=some (natAV (repB f n.mn n.mx k q st).1,hp')∧PS fl pb sb' hp' p (repB f n.mn n.mx k q st).2∧FrX pb sb sb' hp hp':=by
 have hi:0 < vs.length:=(List.getElem?_eq_some_iff.1 hv).1
 rcases h2 with hm | ⟨hm1,hm2⟩
 ·have hneg:n.mx < 0:=by omega
  unfold repB at hst ⊢
  rw [if_pos hneg] at hst ⊢
  have hL:(loopB f k q st).2.length < 1000000:=by
   split at hst
   ·exact hst
   ·exact Nat.lt_of_le_of_lt (len_le (moreB_adds hf k _ _ _)) hst
  have hL2:(f k st.length (st++[⟨4,W4.zero,[q]⟩])).2.length < 1000000:=by
   unfold loopB at hL
   simpa using hL
  have hL3:=len_le (hf k st.length (st++[⟨4,W4.zero,[q]⟩]))
  have hL4:(st++[(⟨4,W4.zero,[q]⟩:NS)]).length=st.length + 1:=by simp
  obtain ⟨g1,s1,e1,p1,x1⟩:=add_ps (m:=m) (k:=4) (s:=W4.zero) (nx := .lit 1 .exact [natAV q]) (next:=[q]) hp1 ⟨.lit _ _ _,fun _=>rfl⟩ (by omega)
  obtain ⟨g2,s2,e2,p2,x2⟩:=hb (q:=st.length) p1 hL2
  have hk:(f k st.length (st++[⟨4,W4.zero,[q]⟩])).2[st.length]?=some ⟨4,W4.zero,[q]⟩:=by
   obtain ⟨x,e⟩:=hf k st.length (st++[⟨4,W4.zero,[q]⟩])
   rw [e];simp
  obtain ⟨rows,c1,c2,c3,c4,c5,k1,k2,k3,k4,k5,k6,k7⟩:=patch_ps p2 hk
  obtain ⟨p3,x3⟩:=k7 (f k st.length (st++[⟨4,W4.zero,[q]⟩])).1
  have fr:=(x1.trans x2).trans x3
  by_cases hm0:n.mn=0
  ·rw [if_pos hm0] at hst ⊢
   by_cases hz:k.size=0
   ·exact ⟨_,s2,rp_i0z hx hv hi hl hm hm0 (by omega) hs hz e1 e2 k1 k2 k3 k4 k5 hL2 k6 (r2_x (by omega)),p3,fr⟩
   ·exact ⟨_,s2,rp_i0 hx hv hi hl hm hm0 (by omega) hs hz e1 e2 k1 k2 k3 k4 k5 hL2 k6 (r2_x (by omega)),p3,fr⟩
  ·rw [if_neg hm0] at hst ⊢
   by_cases hz:k.size=0
   ·rw [if_pos hz] at hst ⊢
    exact ⟨_,s2,rp_iz hx hv hi hl hm (by omega) (by omega) hs hz e1 e2 k1 k2 k3 k4 k5 hL2 k6 (r2_x (by omega)),p3,fr⟩
   ·rw [if_neg hz] at hst ⊢
    obtain ⟨g4,s4,e4,p4,x4⟩:=more_lp hf hb (n.mn - 1).toNat 0 (more:=n.mn - 1) (by omega) (by omega) p3 hst
    exact ⟨g4,s4,rp_i1 hx hv hi hl hm (by omega) (by omega) hs hz e1 e2 k1 k2 k3 k4 k5 hL2 k6 e4,p4,fr.trans x4⟩
 ·have hneg:¬n.mx < 0:=by omega
  unfold repB at hst ⊢
  rw [if_neg hneg] at hst ⊢
  have hL:(optB f k (n.mx - n.mn).toNat q st).2.length < 1000000:=Nat.lt_of_le_of_lt (len_le (moreB_adds hf k _ _ _)) hst
  obtain ⟨g1,s1,e1,p1,x1⟩:=opt_lp hf hb (mo:=n.mn) (n.mx - n.mn).toNat 0 (cnt:=n.mx - n.mn) (by omega) (by omega) hp1 hL
  by_cases hz:k.size=0
  ·rw [if_pos hz] at hst ⊢
   exact ⟨g1,s1,rp_fz hx hv hi hl (by omega) (by omega) h0 (by omega) hs hz e1 (r2_x (by omega)),p1,x1⟩
  ·rw [if_neg hz] at hst ⊢
   obtain ⟨g4,s4,e4,p4,x4⟩:=more_lp hf hb n.mn.toNat 0 (more:=n.mn) (by omega) (by omega) p1 hst
   exact ⟨g4,s4,rp_f0 hx hv hi hl (by omega) (by omega) h0 (by omega) hs hz e1 e4,p4,x1.trans x4⟩
theorem build_ok {m:Int} {fl pb:Nat}:∀ (d:Nat) {n:Node} {ks:AV},Norm d n→KidsR n.kids ks→n.lw < 100000→Bd m fl pb (buildF d) n ks
 | 0,_,_,h,_,_=>h.elim
 | d + 1,n,ks,hN,hK,hw=>by
  rename_i q hp sb p st
  intro hp1 hst
  have hs:∀ fl h,evI (cfg m) fl 22 [nAV n ks] h=some (.int .i64 n.size,h):=fun fl h=>size_ok (d + 1) (Norm.dep hN) hK hw
  have ih:∀ k ∈ n.kids,∀ kk,KidsR k.kids kk→Bd m fl pb (buildF d) k kk:=fun k hk kk hkk=>build_ok d (hN.2 k hk) hkk (by have:=lw_mem hk;have:=n.lw_eq;omega)
  have ad:=buildF_adds d
  have hKK:=hK
  obtain ⟨vs,hx,hR⟩:=hK
  have hvl:=hR.1
  have hlw:=n.lw_eq
  have hll:=lws_len (l:=n.kids)
  have hl:vs.length < 1000000:=by omega
  unfold buildF at hst ⊢
  by_cases hz:n.size=0
  ·rw [if_pos hz]
   exact ⟨hp,sb,bd_0 hs hz,hp1, .refl _ _ _⟩
  rw [if_neg hz] at hst ⊢
  by_cases k1:n.kind=1
  ·rw [if_pos k1] at hst ⊢
   exact bd_1 hp1 hs hz k1 (by simp at hst;omega)
  rw [if_neg k1] at hst ⊢
  by_cases k2:n.kind=2
  ·rw [if_pos k2] at hst ⊢
   exact bd_2 hp1 hs hz k2 (by simp at hst;omega)
  rw [if_neg k2] at hst ⊢
  by_cases k3:n.kind=3
  ·rw [if_pos k3] at hst ⊢
   exact bd_3 hp1 hs hz k3 (by simp at hst;omega)
  rw [if_neg k3] at hst ⊢
  by_cases k4:n.kind=4
  ·rw [if_pos k4] at hst ⊢
   have e0:n.kids.take n.kids.length=n.kids:=List.take_length
   obtain ⟨he,s1,e1,p1,x1⟩:=cat_lp ad (n:=n) hx hR hl ih n.kids.length (q:=q) (Nat.le_refl _) hp1 (by rw [e0];exact hst)
   rw [e0] at e1 p1
   rw [← hvl] at e1
   exact ⟨he,s1,bd_4 hx hl hs hz k4 e1,p1,x1⟩
  rw [if_neg k4] at hst ⊢
  by_cases k5:n.kind=5
  ·rw [if_pos k5] at hst ⊢
   have hb:fl≤hp.length:=by
    obtain ⟨rows,b1,_,_,_,b5,_⟩:=hp1
    have:=blk_lt b1;omega
   have h2:2≤n.kids.length:=by
    have:=hN.1
    cases this with
    | alt l h _=>exact h
    | empty=>cases k5
    | one=>cases k5
    | beg=>cases k5
    | fin=>cases k5
    | cat=>cases k5
    | rep=>cases k5
   have hL:(altB (buildF d) q n.kids [] st).2.length < 1000000:=by
    simp at hst;omega
   obtain ⟨he,s1,xe,e1,p1,g1,x1⟩:=alt_lp ad (q:=q) hx hR hl ih hb n.kids 0 rfl (by simp;omega) (Gr.nil _ _ _) (FrX.refl pb sb hp) hp1 hL
   obtain ⟨h5,s2,e2,p2,x2⟩:=add_ps (m:=m) (k:=4) (s:=W4.zero) p1 ⟨g1.isSl,fun h=>by rw [altB_len] at h;simp at h;omega⟩ hL
   exact ⟨h5,s2,bd_5 hx hl hs hz k5 e1 e2,p2,x1.trans x2⟩
  rw [if_neg k5] at hst ⊢
  have hsh:=hN.1
  have k0:n.kind=6∧∃ a b k,n = .mk 6 W4.zero a b [k]∧0≤a∧a≤20∧(b = -1∨a≤b∧b≤20):=by
   cases hsh with
   | rep a b k i0 i1 i2=>exact ⟨rfl,a,b,k,rfl,i0,i1,i2⟩
   | empty=>exact absurd rfl hz
   | one=>exact absurd rfl k1
   | beg=>exact absurd rfl k2
   | fin=>exact absurd rfl k3
   | cat=>exact absurd rfl k4
   | alt=>exact absurd rfl k5
  obtain ⟨k6,a,b,k,rfl,i0,i1,i2⟩:=k0
  have hk:(Node.mk 6 W4.zero a b [k]).kids[0]?=some k:=rfl
  obtain ⟨kk,hv,hkk⟩:=hR.get hk
  have hmem:k ∈ (Node.mk 6 W4.zero a b [k]).kids:=by simp [Node.kids]
  have hkw:k.lw < 100000:=by have:=lw_mem hmem;omega
  obtain ⟨h5,s2,e2,p2,x2⟩:=rep_ok ad (n := .mk 6 W4.zero a b [k]) (q:=q) hx hv hl i0 i1 i2 (fun fl h=>size_ok d (Norm.dep (hN.2 k hmem)) hkk hkw) (ih k hmem kk hkk) hp1 hst
  exact ⟨h5,s2,bd_6 hs hz k6 e2,p2,x2⟩
theorem add_first {m:Int} {fl pb:Nat} {hp:List Blk} {x1 x2 x3 x4 x5 x6 x7 x8:AV} (hpb:blkCells hp pb=some [.nilS,x1,x2,x3,x4,x5,x6,x7,x8, .int .i64 0]) (hf:fl≤pb):evI (cfg m) fl 25 [.ptr pb 0, .int .i64 0, .agg [.int .u64 0, .int .u64 0, .int .u64 0, .int .u64 0], .nilS] hp=some (.int .i64 0,setAt hp pb (.cells (progB hp.length 1 x1 x2 x3 x4 x5 x6 x7 x8 0))++[.cells [.int .i64 0, .int .u64 0, .int .u64 0, .int .u64 0, .int .u64 0, .nilS]]):=by
 exact evX (AI 0) (setAt hp pb (BC [AV.arr 6 hp.length 0 1,x1,x2,x3,x4,x5,x6,x7,x8,AI 0])++[BC [AI 0,AW 0,AW 0,AW 0,AW 0,AV.nilS]]) [.m 1 4 (load_ok (C:=cfg m) (t:=50) (off:=0) (x:=AV.nilS) hpb (by kernel_rfl)), .t 1 13 (store_ok (C:=cfg m) (t:=50) (off:=0) (hp:=hp++[BC [AI 0,AW 0,AW 0,AW 0,AW 0,AV.nilS]]) (hp':=setAt hp pb (BC [AV.arr 6 hp.length 0 1,x1,x2,x3,x4,x5,x6,x7,x8,AI 0])++[BC [AI 0,AW 0,AW 0,AW 0,AW 0,AV.nilS]]) (cs:=[AV.nilS,x1,x2,x3,x4,x5,x6,x7,x8,AI 0]) (cs':=[AV.arr 6 hp.length 0 1,x1,x2,x3,x4,x5,x6,x7,x8,AI 0]) (x:=AV.arr 6 hp.length 0 1) (blk_app hpb) (by kernel_rfl) hf (setAt_app (blk_lt hpb))), .m 2 3 (load_ok (C:=cfg m) (t:=50) (b:=pb) (off:=0) (hp:=setAt hp pb (BC [AV.arr 6 hp.length 0 1,x1,x2,x3,x4,x5,x6,x7,x8,AI 0])++[BC [AI 0,AW 0,AW 0,AW 0,AW 0,AV.nilS]]) (cs:=[AV.arr 6 hp.length 0 1,x1,x2,x3,x4,x5,x6,x7,x8,AI 0]) (x:=AV.arr 6 hp.length 0 1) (blk_app (blk_set (blk_lt hpb))) (by kernel_rfl))] (by kernel_rfl) (tlK (by kernel_rfl) rfl) rfl
abbrev cpH (hp:List Blk) (n:Node) (ks:AV):List Blk:=setAt (hp++[Blk.cells [AV.nilS,AI n.kind,wAV n.set.a,wAV n.set.b,wAV n.set.c,wAV n.set.d,AI n.mn,AI n.mx,ks, .int .i64 0]]) hp.length (Blk.cells [AV.arr 6 (hp++[Blk.cells [AV.nilS,AI n.kind,wAV n.set.a,wAV n.set.b,wAV n.set.c,wAV n.set.d,AI n.mn,AI n.mx,ks, .int .i64 0]]).length 0 1,AI n.kind,wAV n.set.a,wAV n.set.b,wAV n.set.c,wAV n.set.d,AI n.mn,AI n.mx,ks, .int .i64 0])++[Blk.cells [.int .i64 0, .int .u64 0, .int .u64 0, .int .u64 0, .int .u64 0, .nilS]]
theorem cp_ok {m:Int} {fl sb nn qf:Nat} {hp h2:List Blk} {n:Node} {ks:AV} {z:Int} (hf:fl≤hp.length) (hr:∀ fl h,evI (cfg m) fl 23 [nAV n ks] h=some (.bool true,h)) (hs:∀ fl h,evI (cfg m) fl 22 [nAV n ks] h=some (.int .i64 z,h)) (hz:z≤200) (hb:evI (cfg m) fl 24 [.ptr hp.length 0,nAV n ks, .int .i64 0] (setAt (hp++[Blk.cells [AV.nilS,AI n.kind,wAV n.set.a,wAV n.set.b,wAV n.set.c,wAV n.set.d,AI n.mn,AI n.mx,ks, .int .i64 0]]) hp.length (Blk.cells [AV.arr 6 (hp++[Blk.cells [AV.nilS,AI n.kind,wAV n.set.a,wAV n.set.b,wAV n.set.c,wAV n.set.d,AI n.mn,AI n.mx,ks, .int .i64 0]]).length 0 1,AI n.kind,wAV n.set.a,wAV n.set.b,wAV n.set.c,wAV n.set.d,AI n.mn,AI n.mx,ks, .int .i64 0])++[Blk.cells [.int .i64 0, .int .u64 0, .int .u64 0, .int .u64 0, .int .u64 0, .nilS]])=some (natAV qf,h2)) (hpb:blkCells h2 hp.length=some (progB sb nn (AI n.kind) (wAV n.set.a) (wAV n.set.b) (wAV n.set.c) (wAV n.set.d) (AI n.mn) (AI n.mx) ks 0)):evI (cfg m) fl 18 [nAV n ks] hp=some (.tup [.ptr hp.length 0, .int .i64 0],setAt h2 hp.length (Blk.cells (progB sb nn (AI n.kind) (wAV n.set.a) (wAV n.set.b) (wAV n.set.c) (wAV n.set.d) (AI n.mn) (AI n.mx) ks qf))):=by
 exact evX (AV.tup [AV.ptr hp.length 0,AI 0]) (setAt h2 hp.length (BC [AV.arr 6 sb 0 nn,AI n.kind,AW n.set.a.toNat,AW n.set.b.toNat,AW n.set.c.toNat,AW n.set.d.toNat,AI n.mn,AI n.mx,ks,AI qf])) [.c 1 1 (hr (fl) (hp)), .c 3 1 (hs (fl) (hp)), .b 3 2 (decide_eq_false ((show ¬z > 200 from (by omega)))), .c 6 7 (add_first (m:=m) (hp:=hp++[BC [AV.nilS,AI n.kind,AW n.set.a.toNat,AW n.set.b.toNat,AW n.set.c.toNat,AW n.set.d.toNat,AI n.mn,AI n.mx,ks,AI 0]]) (x1:=AI n.kind) (x2:=AW n.set.a.toNat) (x3:=AW n.set.b.toNat) (x4:=AW n.set.c.toNat) (x5:=AW n.set.d.toNat) (x6:=AI n.mn) (x7:=AI n.mx) (x8:=ks) blk_last hf), .c 6 8 hb, .t 6 11 (store_ok (C:=cfg m) (t:=3) (off:=9) (hp':=setAt h2 hp.length (BC [AV.arr 6 sb 0 nn,AI n.kind,AW n.set.a.toNat,AW n.set.b.toNat,AW n.set.c.toNat,AW n.set.d.toNat,AI n.mn,AI n.mx,ks,AI qf])) (cs':=[AV.arr 6 sb 0 nn,AI n.kind,AW n.set.a.toNat,AW n.set.b.toNat,AW n.set.c.toNat,AW n.set.d.toNat,AI n.mn,AI n.mx,ks,AI qf]) (x:=AI qf) hpb (by kernel_rfl) hf rfl)] (by kernel_rfl) (tlK (by kernel_rfl) rfl) rfl
def progF (d:Nat) (n:Node):Nat × List NS:=buildF d n 0 [⟨0,W4.zero,[]⟩]
abbrev pxOf (n:Node) (ks:AV) (first:Nat):Px:=⟨AI n.kind,wAV n.set.a,wAV n.set.b,wAV n.set.c,wAV n.set.d,AI n.mn,AI n.mx,ks,first⟩
theorem compile_ok {m:Int} {fl d:Nat} {hp:List Blk} {n:Node} {ks:AV} (hf:fl≤hp.length) (hN:Norm d n) (hK:KidsR n.kids ks) (hw:n.lw < 100000) (hr:∀ fl h,evI (cfg m) fl 23 [nAV n ks] h=some (.bool true,h)) (hz:n.size≤200) (hl:(progF d n).2.length < 1000000) :
  ∃ hp' sb,evI (cfg m) fl 18 [nAV n ks] hp=some (.tup [.ptr hp.length 0, .int .i64 0],hp')∧PS fl hp.length sb hp' (pxOf n ks (progF d n).1) (progF d n).2∧hp.length≤hp'.length∧∀ c,c < hp.length→getAt hp' c=getAt hp c:=by
 have hs:∀ fl h,evI (cfg m) fl 22 [nAV n ks] h=some (.int .i64 n.size,h):=fun fl h=>size_ok d (Norm.dep hN) hK hw
 have hp1:PS fl hp.length (hp.length + 1) (cpH hp n ks) (pxOf n ks 0) [⟨0,W4.zero,[]⟩]:=by
  refine ⟨[.agg (nsAV ⟨0,W4.zero,[]⟩ .nilS)], ?_, ?_,⟨rfl,fun i x hx => ?_⟩,by omega,hf,by omega⟩
  ·have e:(hp++[Blk.cells [AV.nilS,AI n.kind,wAV n.set.a,wAV n.set.b,wAV n.set.c,wAV n.set.d,AI n.mn,AI n.mx,ks, .int .i64 0]]).length=hp.length + 1:=by simp
   unfold cpH
   rw [e]
   exact blk_app (blk_set (by simp))
  ·unfold cpH
   exact blk_last' (by rw [setAt_length];simp)
  ·cases i with
   | zero=>simp at hx;subst hx;exact ⟨_,rfl, .nilS,rfl, .nil _,fun h=>by simp at h⟩
   | succ i=>simp at hx
 obtain ⟨h2,s2,e2,p2,x2⟩:=build_ok (m:=m) (fl:=fl) (pb:=hp.length) d hN hK hw (q:=0) hp1 hl
 obtain ⟨rows,b1,b2,b3,b4,b5,b6⟩:=p2
 refine ⟨_,s2,cp_ok hf hr hs hz e2 b1,⟨rows,blk_set (blk_lt b1),blk_set_ne b4 b2,b3,b4,b5,b6⟩, ?_,fun c hc => ?_⟩
 ·rw [setAt_length]
  have:=blk_lt b1;omega
 ·rw [getAt_set_ne (by omega),x2.2.2 c (by unfold cpH;rw [List.length_append,setAt_length];simp;omega) (by omega) (by omega)]
  unfold cpH
  rw [getAt_app_lt (by rw [setAt_length];simp;omega),getAt_set_ne (by omega),getAt_app_lt hc]
theorem flat_row {c:List AV} (hc:c.length=6):∀ {rows:List AV} (j:Nat),AggN 6 rows→rows[j]?=some (.agg c)→((flat rows).drop (j * 6)).take 6=c
 | [],_,_,h=>by simp at h
 | v::vs,0,_,h=>by
  simp at h;subst h
  show ((c++flat vs).drop 0).take 6=c
  rw [List.drop_zero,← hc,List.take_left]
 | v::vs,j + 1,ha,h=>by
  obtain ⟨d,rfl,hd⟩:=ha v (by simp)
  have ih:=flat_row hc (rows:=vs) j (fun w hw=>ha w (by simp [hw])) (by simpa using h)
  show ((d++flat vs).drop _).take 6=c
  rw [show (j + 1) * 6=d.length + j * 6 by omega,List.drop_append,List.drop_eq_nil_of_le (by omega),List.nil_append,show d.length + j * 6 - d.length=j * 6 by omega];exact ih
theorem PS.stOK {fl pb sb:Nat} {hp:List Blk} {p:Px} {st:List NS} (h:PS fl pb sb hp p st):StOK hp sb st:=by
 obtain ⟨rows,b1,b2,b3,_⟩:=h
 refine ⟨flat rows,b2,fun i x hx => ?_⟩
 obtain ⟨v,hv,nx,rfl,hn,_⟩:=b3.2 i x hx
 exact ⟨nx,flat_row rfl i b3.agg hv,hn⟩
theorem of_no {m:Int} {fl:Nat} {hp:List Blk} {s:List UInt8} {n:Node} {ks:AV} {pl e:Int} (hp1:∀ fl,evI (cfg m) fl 20 [.str s] hp=some (.tup [nAV n ks, .int .i64 pl, .int .i64 e],hp)) (he:e≠0):evI (cfg m) fl 12 [.str s] hp=some (.tup [.nilP, .int .i64 pl, .int .i64 e],hp):=by
 exact evX (AV.tup [AV.nilP,AI pl,AI e]) (hp) [.c 1 1 (hp1 (fl)), .b 2 1 (bne_iff_ne.2 (he))] (by kernel_rfl) (tlK (by kernel_rfl) rfl) rfl
theorem of_ok {m:Int} {fl:Nat} {hp h2:List Blk} {s:List UInt8} {n:Node} {ks pp:AV} {pl e2:Int} (hp1:∀ fl,evI (cfg m) fl 20 [.str s] hp=some (.tup [nAV n ks, .int .i64 pl, .int .i64 0],hp)) (hc:evI (cfg m) fl 18 [nAV n ks] hp=some (.tup [pp, .int .i64 e2],h2)):evI (cfg m) fl 12 [.str s] hp=some (.tup [pp, .int .i64 pl, .int .i64 e2],h2):=by
 exact evX (AV.tup [pp,AI pl,AI e2]) (h2) [.c 1 1 (hp1 (fl)), .c 4 1 hc] (by kernel_rfl) (tlK (by kernel_rfl) rfl) rfl
theorem whole_ok {m:Int} {fl pb:Nat} {hp:List Blk} {s:List UInt8} {b:Bool} (hq:∀ fl,evI (cfg m) fl 21 [.ptr pb 0, .str s, .bool true] hp=some (.bool b,hp)):evI (cfg m) fl 13 [.ptr pb 0, .str s] hp=some (.bool b,hp):=by
 rcases bcases (b) with h1 | h1
 ·exact evX (AV.bool true) (hp) [.cb 1 2 (hq (hp.length)) h1] (by kernel_rfl) (tlP (by kernel_rfl) rfl (shutT (v:=AV.bool true) (v':=AV.bool true) (by kernel_rfl))) (by simp [*])
 ·exact evX (AV.bool false) (hp) [.cb 1 2 (hq (hp.length)) h1] (by kernel_rfl) (tlP (by kernel_rfl) rfl (shutT (v:=AV.bool false) (v':=AV.bool false) (by kernel_rfl))) (by simp [*])
theorem find_ok {m:Int} {fl pb:Nat} {hp:List Blk} {s:List UInt8} {b:Bool} (hq:∀ fl,evI (cfg m) fl 21 [.ptr pb 0, .str s, .bool false] hp=some (.bool b,hp)):evI (cfg m) fl 14 [.ptr pb 0, .str s] hp=some (.bool b,hp):=by
 rcases bcases (b) with h1 | h1
 ·exact evX (AV.bool true) (hp) [.cb 1 2 (hq (hp.length)) h1] (by kernel_rfl) (tlP (by kernel_rfl) rfl (shutT (v:=AV.bool true) (v':=AV.bool true) (by kernel_rfl))) (by simp [*])
 ·exact evX (AV.bool false) (hp) [.cb 1 2 (hq (hp.length)) h1] (by kernel_rfl) (tlP (by kernel_rfl) rfl (shutT (v:=AV.bool false) (v':=AV.bool false) (by kernel_rfl))) (by simp [*])
def NX (st:List NS):Prop:=∀ x ∈ st,x.next.length < 1000000∧∀ j ∈ x.next,j < st.length
theorem NX.app {st:List NS} {x:NS} (h:NX st) (hl:x.next.length < 1000000) (hx:∀ j ∈ x.next,j≤st.length):NX (st++[x]):=by
 intro y hy
 rw [List.length_append]
 rcases List.mem_append.1 hy with hy | hy
 ·exact ⟨(h y hy).1,fun j hj=>by have:=(h y hy).2 j hj;omega⟩
 ·obtain rfl:y=x:=by simpa using hy
  exact ⟨hl,fun j hj=>by have:=hx j hj;simp;omega⟩
theorem NX.set {st:List NS} {x:NS} {k:Nat} (h:NX st) (hl:x.next.length < 1000000) (hx:∀ j ∈ x.next,j < st.length):NX (st.set k x):=by
 intro y hy
 rw [List.length_set]
 rcases List.mem_or_eq_of_mem_set hy with hy | rfl
 ·exact h y hy
 ·exact ⟨hl,hx⟩
def Gd (f:BF) (k:Node):Prop:=∀ q st,NX st→q < st.length→(f k q st).1 < (f k q st).2.length∧NX (f k q st).2
theorem catB_gd {f:BF}:∀ (l:List Node) (q:Nat) (st:List NS),(∀ k ∈ l,Gd f k)→NX st→q < st.length→(catB f l q st).1 < (catB f l q st).2.length∧NX (catB f l q st).2
 | [],_,_,_,h,hq=>⟨hq,h⟩
 | k::l,q,st,hk,h,hq=>by
  rw [catB]
  obtain ⟨a,b⟩:=hk k (by simp) q st h hq
  exact catB_gd l _ _ (fun x hx=>hk x (by simp [hx])) b a
theorem moreB_gd {f:BF} {k:Node} (hk:Gd f k):∀ (c q:Nat) (st:List NS),NX st→q < st.length→(moreB f k c q st).1 < (moreB f k c q st).2.length∧NX (moreB f k c q st).2
 | 0,_,_,h,hq=>⟨hq,h⟩
 | c + 1,q,st,h,hq=>by
  rw [moreB]
  obtain ⟨a,b⟩:=hk q st h hq
  exact moreB_gd hk c _ _ b a
theorem optB_gd {f:BF} (hf:Adds f) {k:Node} (hk:Gd f k):∀ (c q:Nat) (st:List NS),NX st→q < st.length→(optB f k c q st).1 < (optB f k c q st).2.length∧NX (optB f k c q st).2
 | 0,_,_,h,hq=>⟨hq,h⟩
 | c + 1,q,st,h,hq=>by
  rw [optB]
  obtain ⟨a,b⟩:=hk q st h hq
  have:=len_le (hf k q st)
  exact optB_gd hf hk c _ _ (b.app (by simp) (fun j hj=>by simp at hj;rcases hj with rfl | rfl <;> omega)) (by simp)
theorem altB_gd {f:BF} (hf:Adds f) {q:Nat}:∀ (l:List Node) (all:List Nat) (st:List NS),(∀ k ∈ l,Gd f k)→NX st→q < st.length→(∀ j ∈ all,j < st.length)→(∀ j ∈ (altB f q l all st).1,j < (altB f q l all st).2.length)∧NX (altB f q l all st).2
 | [],_,_,_,h,_,ha=>⟨ha,h⟩
 | k::l,all,st,hk,h,hq,ha=>by
  rw [altB]
  obtain ⟨a,b⟩:=hk k (by simp) q st h hq
  have:=len_le (hf k q st)
  exact altB_gd hf l _ _ (fun x hx=>hk x (by simp [hx])) b (by omega) (fun j hj=>by
   rcases List.mem_append.1 hj with hj | hj
   ·have:=ha j hj;omega
   ·obtain rfl:j=(f k q st).1:=by simpa using hj
    exact a)
theorem loopB_gd {f:BF} (hf:Adds f) {k:Node} (hk:Gd f k) {q:Nat} {st:List NS} (h:NX st) (hq:q < st.length):(loopB f k q st).1 < (loopB f k q st).2.length∧st.length < (loopB f k q st).2.length∧NX (loopB f k q st).2:=by
 have h1:NX (st++[⟨4,W4.zero,[q]⟩]):=h.app (by simp) (fun j hj=>by simp at hj;omega)
 obtain ⟨a,b⟩:=hk st.length _ h1 (by simp)
 have:=len_le (hf k st.length (st++[⟨4,W4.zero,[q]⟩]))
 simp at this
 unfold loopB
 refine ⟨by rw [List.length_set];exact a,by rw [List.length_set];omega,b.set (by simp) fun j hj => ?_⟩
 simp at hj
 rcases hj with rfl | rfl
 ·omega
 ·exact a
theorem repB_gd {f:BF} (hf:Adds f) {k:Node} (hk:Gd f k) (mn mx:Int) {q:Nat} {st:List NS} (h:NX st) (hq:q < st.length):(repB f mn mx k q st).1 < (repB f mn mx k q st).2.length∧NX (repB f mn mx k q st).2:=by
 unfold repB
 split
 ·obtain ⟨a,b,c⟩:=loopB_gd hf hk h hq
  split
  ·exact ⟨b,c⟩
  ·exact moreB_gd hk _ _ _ c a
 ·obtain ⟨a,b⟩:=optB_gd hf hk (mx - mn).toNat q st h hq
  exact moreB_gd hk _ _ _ b a
theorem buildF_gd:∀ (d:Nat) {n:Node},n.lw < 100000→Gd (buildF d) n
 | 0,_,_=>fun q st h hq=>⟨hq,h⟩
 | d + 1,n,hw=>fun q st h hq=>by
  have ad:=buildF_adds d
  have ih:∀ k ∈ n.kids,Gd (buildF d) k:=fun k hk=>buildF_gd d (by have:=lw_mem hk;have:=n.lw_eq;omega)
  have hlw:=n.lw_eq
  have hll:=lws_len (l:=n.kids)
  have leaf:∀ (c:Int) (s:W4),(st.length,st++[(⟨c,s,[q]⟩:NS)]).1 < (st.length,st++[(⟨c,s,[q]⟩:NS)]).2.length∧NX (st.length,st++[(⟨c,s,[q]⟩:NS)]).2:=fun c s=>⟨by simp,h.app (by simp) (fun j hj=>by simp at hj;omega)⟩
  unfold buildF
  split; · exact ⟨hq,h⟩
  split; · exact leaf _ _
  split; · exact leaf _ _
  split; · exact leaf _ _
  split; · exact catB_gd _ _ _ (fun k hk=>ih k (by simpa using hk)) h hq
  split
  ·obtain ⟨a,b⟩:=altB_gd ad n.kids [] st ih h hq (by simp)
   exact ⟨by simp,b.app (by rw [altB_len];simp;omega) fun j hj=>by have:=a j hj;omega⟩
  ·split
   ·rename_i k ks e
    exact repB_gd ad (ih k (by rw [e];simp)) _ _ h hq
   ·exact ⟨hq,h⟩
theorem progF_wf {d:Nat} {n:Node} (hw:n.lw < 100000) (hl:(progF d n).2.length < 1000000):WF (progF d n).2∧(progF d n).1 < (progF d n).2.length:=by
 obtain ⟨a,b⟩:=buildF_gd d hw 0 [⟨0,W4.zero,[]⟩] (fun x hx=>by simp at hx;subst hx;simp) (by simp)
 exact ⟨⟨hl,b⟩,a⟩
def Lg (f:BF) (k:Node):Prop:=∀ q st,((f k q st).2.length:Int)≤st.length + k.size
def sumS:List Node→Int
 | []=>0
 | k::l=>k.size + sumS l
theorem sumS_nn:∀ (l:List Node),0≤sumS l
 | []=>by simp [sumS]
 | k::l=>by have:=sumS_nn l;have:=size_bd k;simp only [sumS];omega
theorem sumS_app:∀ (l r:List Node),sumS (l++r)=sumS l + sumS r
 | [],r=>by simp [sumS]
 | k::l,r=>by simp only [List.cons_append,sumS,sumS_app l r];omega
theorem sumS_rev:∀ (l:List Node),sumS l.reverse=sumS l
 | []=>rfl
 | k::l=>by rw [List.reverse_cons,sumS_app,sumS_rev l];simp only [sumS];omega
theorem sumC_ge:∀ (l:List Node) (a:Int),0≤a→sumC (l.map Node.size) a < 1000000→sumC (l.map Node.size) a=a + sumS l
 | [],a,_,_=>by simp [sumC,sumS]
 | k::l,a,h,hs=>by
  simp only [List.map_cons,sumC,sumS] at hs ⊢
  have hk:=size_bd k
  have ih:=sumC_ge l _ (by omega) hs
  have:=sumS_nn l
  omega
theorem catB_lg {f:BF}:∀ (l:List Node) (q:Nat) (st:List NS),(∀ k ∈ l,Lg f k)→((catB f l q st).2.length:Int)≤st.length + sumS l
 | [],_,_,_=>by simp [catB,sumS]
 | k::l,q,st,h=>by
  have a:=h k (by simp) q st
  have b:=catB_lg l (f k q st).1 (f k q st).2 (fun x hx=>h x (by simp [hx]))
  rw [catB];simp only [sumS];omega
theorem altB_lg {f:BF} {q:Nat}:∀ (l:List Node) (all:List Nat) (st:List NS),(∀ k ∈ l,Lg f k)→((altB f q l all st).2.length:Int)≤st.length + sumS l
 | [],_,_,_=>by simp [altB,sumS]
 | k::l,all,st,h=>by
  have a:=h k (by simp) q st
  have b:=altB_lg (f:=f) (q:=q) l (all++[(f k q st).1]) (f k q st).2 (fun x hx=>h x (by simp [hx]))
  rw [altB];simp only [sumS];omega
theorem moreB_lg {f:BF} {k:Node} (h:Lg f k):∀ (c q:Nat) (st:List NS),((moreB f k c q st).2.length:Int)≤st.length + c * k.size
 | 0,_,_=>by simp [moreB]
 | c + 1,q,st=>by
  have a:=h q st
  have b:=moreB_lg h c (f k q st).1 (f k q st).2
  rw [moreB]
  have e:((c + 1:Nat):Int) * k.size=c * k.size + k.size:=by push_cast;rw [Int.add_mul,Int.one_mul]
  rw [e];omega
theorem optB_lg {f:BF} {k:Node} (h:Lg f k):∀ (c q:Nat) (st:List NS),((optB f k c q st).2.length:Int)≤st.length + c * k.size + c
 | 0,_,_=>by simp [optB]
 | c + 1,q,st=>by
  have a:=h q st
  have b:=optB_lg h c (f k q st).2.length ((f k q st).2++[⟨4,W4.zero,[q,(f k q st).1]⟩])
  rw [List.length_append] at b
  simp only [List.length_cons,List.length_nil] at b
  rw [optB]
  have e:((c + 1:Nat):Int) * k.size=c * k.size + k.size:=by push_cast;rw [Int.add_mul,Int.one_mul]
  rw [e];omega
theorem loopB_lg {f:BF} {k:Node} (h:Lg f k) (q:Nat) (st:List NS):((loopB f k q st).2.length:Int)≤st.length + 1 + k.size:=by
 have a:=h st.length (st++[⟨4,W4.zero,[q]⟩])
 rw [List.length_append] at a
 simp only [List.length_cons,List.length_nil] at a
 unfold loopB
 rw [List.length_set];omega
theorem repB_lg {f:BF} {k:Node} (h:Lg f k) {a b:Int} (i0:0≤a) (i1:a≤20) (i2:b = -1∨a≤b∧b≤20) (q:Nat) (st:List NS) (hs:(Node.mk 6 W4.zero a b [k]).size < 1000000):((repB f a b k q st).2.length:Int)≤st.length + (Node.mk 6 W4.zero a b [k]).size:=by
 have hk:=size_bd k
 rw [Node.size_eq] at hs ⊢
 simp only [Node.kind,Node.mn,Node.mx,Node.kids,List.map_cons,List.map_nil,sizeV,List.headD_cons] at hs ⊢
 rw [if_neg (by omega),if_neg (by omega),if_neg (by omega),if_pos trivial] at hs ⊢
 rcases i2 with rfl | ⟨j1,j2⟩
 ·rw [if_pos (show (-1:Int) < 0 by omega)] at hs ⊢
  unfold repB
  rw [if_pos (show (-1:Int) < 0 by omega)]
  have l1:=loopB_lg h q st
  have e:max (max (min a 1000000) 0) 1=max a 1:=by omega
  rw [e] at hs ⊢
  have nn:0≤k.size * max a 1:=Int.mul_nonneg hk.1 (by omega)
  have e2:max (min (k.size * max a 1 + 1) 1000000) 0=k.size * max a 1 + 1:=by omega
  rw [e2] at hs ⊢
  by_cases h0:a=0
  ·rw [if_pos h0]
   subst h0
   have:k.size * max 0 1=k.size:=by rw [show max (0:Int) 1=1 by omega,Int.mul_one]
   show ((loopB f k q st).2.length:Int)≤_
   omega
  ·rw [if_neg h0]
   by_cases hz:k.size=0
   ·rw [if_pos hz]
    have:=moreB_lg h 0 (loopB f k q st).1 (loopB f k q st).2
    simp at this;omega
   ·rw [if_neg hz]
    have:=moreB_lg h (a - 1).toNat (loopB f k q st).1 (loopB f k q st).2
    have e3:((a - 1).toNat:Int) * k.size=k.size * max a 1 - k.size:=by
     rw [show ((a - 1).toNat:Int)=a - 1 by omega,show max a 1=a by omega,Int.sub_mul,Int.one_mul,Int.mul_comm]
    omega
 ·rw [if_neg (show ¬b < 0 by omega)] at hs ⊢
  unfold repB
  rw [if_neg (show ¬b < 0 by omega)]
  have eb:max (min b 1000000) 0=b:=by omega
  have ea:max (min a 1000000) 0=a:=by omega
  rw [eb,ea] at hs ⊢
  have nn:0≤k.size * b:=Int.mul_nonneg hk.1 (by omega)
  have e2:max (min (k.size * b + b - a) 1000000) 0=k.size * b + b - a:=by omega
  rw [e2] at hs ⊢
  have l1:=optB_lg h (b - a).toNat q st
  have e4:((b - a).toNat:Int)=b - a:=by omega
  rw [e4] at l1
  by_cases hz:k.size=0
  ·rw [if_pos hz]
   have:=moreB_lg h 0 (optB f k (b - a).toNat q st).1 (optB f k (b - a).toNat q st).2
   rw [hz] at l1 ⊢
   simp at this l1;omega
  ·rw [if_neg hz]
   have:=moreB_lg h a.toNat (optB f k (b - a).toNat q st).1 (optB f k (b - a).toNat q st).2
   rw [show ((a.toNat:Nat):Int)=a by omega] at this
   have e5:(b - a) * k.size + a * k.size=k.size * b:=by rw [← Int.add_mul,show b - a + a=b by omega,Int.mul_comm]
   omega
theorem buildF_lg:∀ (d:Nat) {n:Node},Norm d n→n.size < 1000000→Lg (buildF d) n
 | 0,_,h,_=>h.elim
 | d + 1,n,hN,hs=>fun q st=>by
  have hk0:=size_bd n
  have szk:∀ l,sumS l < 1000000→∀ k ∈ l,k.size < 1000000:=by
   intro l
   induction l with
   | nil=>intro _ k hk;cases hk
   | cons x l ih =>
    intro h k hk
    have:=sumS_nn l
    have:=size_bd x
    simp only [sumS] at h
    rcases List.mem_cons.1 hk with rfl | hk
    ·omega
    ·exact ih (by omega) k hk
  have hsh:=hN.1
  have hkids:=hN.2
  clear hN
  unfold buildF
  split
  ·show (st.length:Int)≤_
   omega
  rename_i hz
  cases hsh with
  | empty=>exact absurd rfl hz
  | one s h=>rw [if_pos (by rfl)];show (((st++[_]).length:Nat):Int)≤st.length + 1;simp
  | beg=>rw [if_neg (by simp [Node.kind]),if_pos (by rfl)];show (((st++[_]).length:Nat):Int)≤st.length + 1;simp
  | fin=>rw [if_neg (by simp [Node.kind]),if_neg (by simp [Node.kind]),if_pos (by rfl)];show (((st++[_]).length:Nat):Int)≤st.length + 1;simp
  | cat l h hk =>
   rw [if_neg (by simp [Node.kind]),if_neg (by simp [Node.kind]),if_neg (by simp [Node.kind]),if_pos (by rfl)]
   have e:(Node.mk 4 W4.zero 0 0 l).size=sumC (l.map Node.size) 0:=by rw [Node.size_eq];rfl
   rw [e] at hs ⊢
   have e1:=sumC_ge l 0 (by omega) hs
   rw [e1] at hs ⊢
   have:=catB_lg (f:=buildF d) l.reverse q st (fun k hk=>buildF_lg d (hkids k (by simpa [Node.kids] using hk)) (szk l (by omega) k (by simpa using hk)))
   rw [sumS_rev] at this
   show ((catB (buildF d) l.reverse q st).2.length:Int)≤_
   omega
  | alt l h hk =>
   rw [if_neg (by simp [Node.kind]),if_neg (by simp [Node.kind]),if_neg (by simp [Node.kind]),if_neg (by simp [Node.kind]),if_pos (by rfl)]
   have e:(Node.mk 5 W4.zero 0 0 l).size=max (min (sumC (l.map Node.size) 0 + (l.map Node.size).length - 1) 1000000) 0:=by rw [Node.size_eq];rfl
   rw [e,List.length_map] at hs ⊢
   have e1:=sumC_ge l 0 (by omega) (by omega)
   rw [e1] at hs ⊢
   have:=altB_lg (f:=buildF d) (q:=q) l [] st (fun k hk=>buildF_lg d (hkids k (by simpa [Node.kids] using hk)) (szk l (by omega) k hk))
   show ((((altB (buildF d) q l [] st).2++[_]).length:Nat):Int)≤_
   rw [List.length_append]
   simp only [List.length_cons,List.length_nil]
   omega
  | rep a b k i0 i1 i2 =>
   rw [if_neg (by simp [Node.kind]),if_neg (by simp [Node.kind]),if_neg (by simp [Node.kind]),if_neg (by simp [Node.kind]),if_neg (by simp [Node.kind])]
   by_cases hk1:k.size < 1000000
   ·exact repB_lg (buildF_lg d (hkids k (by simp [Node.kids])) hk1) i0 i1 i2 q st hs
   ·exfalso
    have hkb:=size_bd k
    have ek:k.size=1000000:=by omega
    apply hz
    rw [Node.size_eq] at hs ⊢
    simp only [Node.kind,Node.mn,Node.mx,Node.kids,List.map_cons,List.map_nil,sizeV,List.headD_cons,ek] at hs ⊢
    rw [if_neg (by omega),if_neg (by omega),if_neg (by omega),if_pos trivial] at hs ⊢
    split at hs
    ·omega
    ·rename_i hb
     rw [if_neg hb]
     omega
theorem progF_len {d:Nat} {n:Node} (hN:Norm d n) (hz:n.size≤200):(progF d n).2.length < 1000000:=by
 have:=buildF_lg d hN (by omega) 0 [⟨0,W4.zero,[]⟩]
 unfold progF
 simp only [List.length_cons,List.length_nil] at this
 omega
def Lies (fl pb:Nat) (hp:List Blk) (d:Nat) (n:Node):Prop:=∃ ks sb,PS fl pb sb hp (pxOf n ks (progF d n).1) (progF d n).2∧KidsR n.kids ks
theorem comp_ok {m:Int} {fl d:Nat} {hp:List Blk} {n:Node} {ks:AV} (hf:fl≤hp.length) (hN:Norm d n) (hK:KidsR n.kids ks) (hw:n.lw < 100000) (hz:n.size≤200) :
  ∃ hp',evI (cfg m) fl 18 [nAV n ks] hp=some (.tup [.ptr hp.length 0, .int .i64 0],hp')∧Lies fl hp.length hp' d n∧hp.length≤hp'.length∧∀ c,c < hp.length→getAt hp' c=getAt hp c:=by
 obtain ⟨hp',sb,e,p,l,fr⟩:=compile_ok (m:=m) hf hN hK hw (fun fl h=>right_ok d hN hK hw) hz (progF_len hN hz)
 exact ⟨hp',e,⟨ks,sb,p,hK⟩,l,fr⟩
theorem Lies.fr {fl pb d N:Nat} {hp hp':List Blk} {n:Node} (h:Lies fl pb hp d n) (hl:hp.length≤N) (hf:∀ c,c < N→getAt hp' c=getAt hp c):Lies fl pb hp' d n:=by
 obtain ⟨ks,sb,⟨rows,b1,b2,b3⟩,k⟩:=h
 have g:∀ {b:Nat} {cs:List AV},blkCells hp b=some cs→blkCells hp' b=some cs:=fun {b cs} hb=>by
  have:=blk_lt hb
  unfold blkCells at hb ⊢
  rw [hf b (by omega)];exact hb
 exact ⟨ks,sb,⟨rows,g b1,g b2,b3⟩,k⟩
theorem run_ok {m:Int} {fl fl2 pb d:Nat} {hp:List Blk} {n:Node} {s:List UInt8} {w:Bool} (h:Lies fl2 pb hp d n) (hN:Norm d n) (hw:n.lw < 100000) (hz:n.size≤200) (hs:s.length < 4611686018427387904) :
  evI (cfg m) fl 21 [.ptr pb 0, .str s, .bool w] hp=some (.bool (matchF (progF d n).2 (progF d n).1 w s),hp):=by
 obtain ⟨ks,sb,p,_⟩:=h
 have hl:=progF_len hN hz
 obtain ⟨w1,w2⟩:=progF_wf hw hl
 have st:=p.stOK
 obtain ⟨rows,b1,b2,_⟩:=p
 exact matches_ok b1 st w1 (by omega) w2 hs (blk_lt b2)
theorem whole_run {m:Int} {fl fl2 pb d:Nat} {hp:List Blk} {n:Node} {s:List UInt8} (h:Lies fl2 pb hp d n) (hN:Norm d n) (hw:n.lw < 100000) (hz:n.size≤200) (hs:s.length < 4611686018427387904) :
  evI (cfg m) fl 13 [.ptr pb 0, .str s] hp=some (.bool (matchF (progF d n).2 (progF d n).1 true s),hp):=whole_ok fun _=>run_ok h hN hw hz hs
theorem find_run {m:Int} {fl fl2 pb d:Nat} {hp:List Blk} {n:Node} {s:List UInt8} (h:Lies fl2 pb hp d n) (hN:Norm d n) (hw:n.lw < 100000) (hz:n.size≤200) (hs:s.length < 4611686018427387904) :
  evI (cfg m) fl 14 [.ptr pb 0, .str s] hp=some (.bool (matchF (progF d n).2 (progF d n).1 false s),hp):=find_ok fun _=>run_ok h hN hw hz hs
def Mk (n:Nat) (ms:List Bool) (l:List Nat):Prop:=ms.length=n∧(∀ q ∈ l,q < n)∧(∀ q,q < n→(ms.getD q true=true↔q ∈ l))
theorem Mk.nil (n:Nat):Mk n (List.replicate n false) []:=⟨by simp,by simp,fun q hq=>by simp [List.getD_eq_getElem?_getD,hq]⟩
theorem Mk.add {n k:Nat} {ms:List Bool} {l:List Nat} (h:Mk n ms l) (hk:k < n):Mk n (ms.set k true) (l++[k]):=by
 refine ⟨by simp [h.1],fun q hq => ?_,fun q hq => ?_⟩
 ·rcases List.mem_append.1 hq with hq | hq
  ·exact h.2.1 q hq
  ·simp at hq;omega
 ·rw [List.getD_eq_getElem?_getD,List.mem_append,List.mem_singleton]
  by_cases e:k=q
  ·subst e
   rw [List.getElem?_set_self (by rw [h.1];exact hk)]
   simp
  ·rw [List.getElem?_set_ne e,← List.getD_eq_getElem?_getD,h.2.2 q hq]
   constructor
   ·exact .inl
   ·rintro (h | h); · exact h
    ·omega
theorem putF_mk {n:Nat}:∀ (ks:List Nat) {ms:List Bool} {l:List Nat},Mk n ms l→(∀ k ∈ ks,k < n)→Mk n (putF ms l ks).1 (putF ms l ks).2∧(∀ q,q ∈ (putF ms l ks).2↔q ∈ l∨q ∈ ks)∧∃ x,(putF ms l ks).2=l++x
 | [],ms,l,h,_=>⟨h,fun q=>by simp [putF],[],by simp [putF]⟩
 | k::ks,ms,l,h,hk=>by
  have hkn:=hk k (by simp)
  unfold putF
  split
  ·rename_i hm
   have hin:k ∈ l:=(h.2.2 k hkn).1 hm
   obtain ⟨a,b,c⟩:=putF_mk ks h (fun q hq=>hk q (by simp [hq]))
   refine ⟨a,fun q => ?_,c⟩
   rw [b q]
   constructor
   ·rintro (h | h); · exact .inl h
    ·exact .inr (by simp [h])
   ·rintro (h | h); · exact .inl h
    ·rcases List.mem_cons.1 h with rfl | h
     ·exact .inl hin
     ·exact .inr h
  ·obtain ⟨a,b,x,c⟩:=putF_mk ks (h.add hkn) (fun q hq=>hk q (by simp [hq]))
   refine ⟨a,fun q => ?_,k::x,by rw [c];simp⟩
   rw [b q]
   simp [or_assoc]
def Ep (st:List NS) (pl len:Nat) (q r:Nat):Prop:=∃ x,st[q]?=some x∧(x.kind=4∨(x.kind=2∧pl=0)∨(x.kind=3∧pl=len))∧r ∈ x.next
inductive EC (st:List NS) (pl len:Nat):Nat→Nat→Prop
 | refl (q:Nat):EC st pl len q q
 | tail {p q r:Nat}:EC st pl len p q→Ep st pl len q r→EC st pl len p r
theorem EC.head {st:List NS} {pl len p q r:Nat} (h:Ep st pl len p q) (g:EC st pl len q r):EC st pl len p r:=by
 induction g with
 | refl=>exact .tail (.refl _) h
 | tail _ e ih=>exact .tail ih e
def Acc (st:List NS) (q:Nat):Prop:=∃ x,st[q]?=some x∧x.kind=0
theorem atF_ok {st:List NS} {pl len:Nat} (hw:WF st):∀ (fuel k:Nat) {ms:List Bool} {l:List Nat} {f:Bool},st.length + 1≤fuel + k→Mk st.length ms l→l.length + ms.count false=st.length →
  (∀ i q,i < k→l[i]?=some q→∀ r,Ep st pl len q r→r ∈ l)→(f=true↔∃ i q,i < k∧l[i]?=some q∧Acc st q) →
  (∀ q,q ∈ (atF st pl len fuel k ms l f).2.1↔∃ p ∈ l,EC st pl len p q)∧((atF st pl len fuel k ms l f).2.2=true↔∃ q ∈ (atF st pl len fuel k ms l f).2.1,Acc st q)
 | fuel,k,ms,l,f,hk,hm,hc,hcl,hf=>by
  have done:l.length≤k→(∀ q,q ∈ l↔∃ p ∈ l,EC st pl len p q)∧(f=true↔∃ q ∈ l,Acc st q):=fun hd=>by
   refine ⟨fun q=>⟨fun h=>⟨q,h, .refl q⟩, ?_⟩,hf.trans ⟨fun ⟨i,q,_,h2,h3⟩=>⟨q,List.mem_of_getElem? h2,h3⟩,fun ⟨q,h1,h2⟩ => ?_⟩⟩
   ·rintro ⟨p,hp,e⟩
    induction e with
    | refl=>exact hp
    | tail _ e ih =>
     obtain ⟨i,hi⟩:=List.getElem?_of_mem ih
     exact hcl i _ (by have:=(List.getElem?_eq_some_iff.1 hi).1;omega) hi _ e
   ·obtain ⟨i,hi⟩:=List.getElem?_of_mem h1
    exact ⟨i,q,by have:=(List.getElem?_eq_some_iff.1 hi).1;omega,hi,h2⟩
  match fuel with
  | 0=>exact done (by omega)
  | fuel + 1 =>
   unfold atF
   cases hlk:l[k]? with
   | none=>exact done (by simpa using hlk)
   | some q =>
    have hql:=List.mem_of_getElem? hlk
    have hqn:=hm.2.1 q hql
    have hx:st[q]?=some st[q]:=List.getElem?_eq_getElem hqn
    have hkl:k < l.length:=(List.getElem?_eq_some_iff.1 hlk).1
    simp only [hx]
    have only:∀ {y:NS},st[q]?=some y→y=st[q]:=fun h=>by rw [hx] at h;exact (Option.some.inj h).symm
    unfold atStep
    by_cases k0:st[q].kind=0
    ·rw [if_pos k0]
     refine atF_ok hw fuel (k + 1) (by omega) hm hc (fun i p hi hp r he => ?_) ?_
     ·by_cases e:i=k
      ·subst e
       rw [hlk] at hp;obtain rfl:=Option.some.inj hp
       obtain ⟨y,h1,h2,_⟩:=he
       rw [only h1] at h2;omega
      ·exact hcl i p (by omega) hp r he
     ·exact ⟨fun _=>⟨k,q,by omega,hlk,_,hx,k0⟩,fun _=>rfl⟩
    ·rw [if_neg k0]
     have nacc:¬Acc st q:=fun ⟨y,h1,h2⟩=>k0 (by rw [← only h1];exact h2)
     by_cases k1:st[q].kind=4∨(st[q].kind=2∧(pl:Int)=0)∨(st[q].kind=3∧(pl:Int)=len)
     ·rw [if_pos k1]
      have hnx:∀ j ∈ st[q].next,j < st.length:=(hw.2 _ (List.getElem_mem _)).2
      obtain ⟨m1,m2,y,m3⟩:=putF_mk st[q].next hm hnx
      have hc':(putF ms l st[q].next).2.length + (putF ms l st[q].next).1.count false=st.length:=by rw [putF_count];exact hc
      have keep:∀ {i p:Nat},i < l.length→(putF ms l st[q].next).2[i]?=some p→l[i]?=some p:=fun {i p} hi h=>by
       rw [m3,List.getElem?_append_left hi] at h;exact h
      have ep:∀ r,r ∈ st[q].next→Ep st pl len q r:=fun r hr=>⟨_,hx,by omega,hr⟩
      obtain ⟨a,b⟩:=atF_ok (pl:=pl) (len:=len) (f:=f) hw fuel (k + 1) (by omega) m1 hc' (fun i p hi hp r he=>by
       have hp':=keep (by omega) hp
       rw [m2]
       by_cases e:i=k
       ·subst e
        rw [hlk] at hp';obtain rfl:=Option.some.inj hp'
        obtain ⟨z,h1,_,h3⟩:=he
        rw [only h1] at h3;exact .inr h3
       ·exact .inl (hcl i p (by omega) hp' r he)) (hf.trans ⟨fun ⟨i,p,h1,h2,h3⟩=>⟨i,p,by omega,by rw [m3,List.getElem?_append_left (by omega)];exact h2,h3⟩,fun ⟨i,p,h1,h2,h3⟩=>by
        have hp':=keep (by omega) h2
        by_cases e:i=k
        ·subst e
         rw [hlk] at hp';obtain rfl:=Option.some.inj hp'
         exact absurd h3 nacc
        ·exact ⟨i,p,by omega,hp',h3⟩⟩)
      refine ⟨fun r=>(a r).trans ⟨?_,fun ⟨p,h1,h2⟩=>⟨p,(m2 p).2 (.inl h1),h2⟩⟩,b⟩
      rintro ⟨p,h1,h2⟩
      rcases (m2 p).1 h1 with h1 | h1
      ·exact ⟨p,h1,h2⟩
      ·exact ⟨q,hql, .head (ep p h1) h2⟩
     ·rw [if_neg k1]
      refine atF_ok hw fuel (k + 1) (by omega) hm hc (fun i p hi hp r he => ?_) (hf.trans ⟨fun ⟨i,p,h1,h2⟩=>⟨i,p,by omega,h2⟩,fun ⟨i,p,h1,h2,h3⟩ => ?_⟩)
      ·by_cases e:i=k
       ·subst e
        rw [hlk] at hp;obtain rfl:=Option.some.inj hp
        obtain ⟨y,h1,h2,_⟩:=he
        rw [only h1] at h2
        rcases h2 with h2 | ⟨h2,h3⟩ | ⟨h2,h3⟩
        ·exact (k1 (.inl h2)).elim
        ·exact (k1 (.inr (.inl ⟨h2,by rw [h3];rfl⟩))).elim
        ·exact (k1 (.inr (.inr ⟨h2,by rw [h3]⟩))).elim
       ·exact hcl i p (by omega) hp r he
      ·by_cases e:i=k
       ·subst e
        rw [hlk] at h2;obtain rfl:=Option.some.inj h2
        exact absurd h3 nacc
       ·exact ⟨i,p,by omega,h2,h3⟩
def Bt (st:List NS) (c:UInt8) (q r:Nat):Prop:=∃ x,st[q]?=some x∧x.kind=1∧x.set.has c.toNat=true∧r ∈ x.next
theorem stepF_ok {st:List NS} {c:UInt8} (hw:WF st):∀ (ks:List Nat) {ms:List Bool} {l:List Nat},(∀ k ∈ ks,k < st.length)→Mk st.length ms l→l.length + ms.count false=st.length →
  Mk st.length (stepF st c ks ms l).1 (stepF st c ks ms l).2∧(stepF st c ks ms l).2.length + (stepF st c ks ms l).1.count false=st.length∧∀ q,q ∈ (stepF st c ks ms l).2↔q ∈ l∨∃ p ∈ ks,Bt st c p q
 | [],ms,l,_,hm,hc=>⟨hm,hc,fun q=>by simp [stepF]⟩
 | k::ks,ms,l,hk,hm,hc=>by
  have hkn:k < st.length:=hk k (by simp)
  have hx:st[k]?=some st[k]:=List.getElem?_eq_getElem hkn
  have only:∀ {y:NS},st[k]?=some y→y=st[k]:=fun h=>by rw [hx] at h;exact (Option.some.inj h).symm
  have hks:∀ j ∈ ks,j < st.length:=fun j hj=>hk j (by simp [hj])
  unfold stepF
  simp only [hx]
  unfold stepQ
  by_cases h1:st[k].kind=1∧st[k].set.has c.toNat=true
  ·rw [if_pos h1]
   obtain ⟨m1,m2,_⟩:=putF_mk st[k].next hm (hw.2 _ (List.getElem_mem _)).2
   have hc':(putF ms l st[k].next).2.length + (putF ms l st[k].next).1.count false=st.length:=by rw [putF_count];exact hc
   obtain ⟨a,b,d⟩:=stepF_ok (c:=c) hw ks hks m1 hc'
   refine ⟨a,b,fun q=>(d q).trans ?_⟩
   rw [m2 q]
   constructor
   ·rintro ((h | h) | ⟨p,h,g⟩)
    ·exact .inl h
    ·exact .inr ⟨k,by simp,_,hx,h1.1,h1.2,h⟩
    ·exact .inr ⟨p,by simp [h],g⟩
   ·rintro (h | ⟨p,h,g⟩)
    ·exact .inl (.inl h)
    ·rcases List.mem_cons.1 h with rfl | h
     ·obtain ⟨y,g1,_,_,g4⟩:=g
      rw [only g1] at g4
      exact .inl (.inr g4)
     ·exact .inr ⟨p,h,g⟩
  ·rw [if_neg h1]
   obtain ⟨a,b,d⟩:=stepF_ok (c:=c) hw ks hks hm hc
   refine ⟨a,b,fun q=>(d q).trans ?_⟩
   constructor
   ·rintro (h | ⟨p,h,g⟩)
    ·exact .inl h
    ·exact .inr ⟨p,by simp [h],g⟩
   ·rintro (h | ⟨p,h,g⟩)
    ·exact .inl h
    ·rcases List.mem_cons.1 h with rfl | h
     ·obtain ⟨y,g1,g2,g3,_⟩:=g
      rw [only g1] at g2 g3
      exact (h1 ⟨g2,g3⟩).elim
     ·exact .inr ⟨p,h,g⟩
inductive Way (st:List NS) (s:List UInt8):Nat→Nat→Nat→Nat→Prop
 | refl (q i:Nat):Way st s q i q i
 | eps {p i q j r:Nat}:Way st s p i q j→Ep st j s.length q r→Way st s p i r j
 | byte {p i q j r:Nat} {c:UInt8}:Way st s p i q j→s[j]?=some c→Bt st c q r→Way st s p i r (j + 1)
theorem Way.ec {st:List NS} {s:List UInt8} {p i q j r:Nat} (h:Way st s p i q j) (g:EC st j s.length q r):Way st s p i r j:=by
 induction g with
 | refl=>exact h
 | tail _ e ih=>exact .eps ih e
theorem Way.le {st:List NS} {s:List UInt8} {p i q j:Nat} (h:Way st s p i q j):i≤j:=by
 induction h with
 | refl=>omega
 | eps _ _ ih=>exact ih
 | byte _ _ _ ih=>omega
theorem Way.last {st:List NS} {s:List UInt8} {p i q j:Nat} (h:Way st s p i q j):(i=j∧EC st j s.length p q)∨∃ r u c k,j=k + 1∧Way st s p i r k∧s[k]?=some c∧Bt st c r u∧EC st j s.length u q:=by
 induction h with
 | refl=>exact .inl ⟨rfl, .refl _⟩
 | eps _ e ih =>
  rcases ih with ⟨h,g⟩ | ⟨r,u,c,k,h1,h2,h3,h4,h5⟩
  ·exact .inl ⟨h, .tail g e⟩
  ·exact .inr ⟨r,u,c,k,h1,h2,h3,h4, .tail h5 e⟩
 | byte w hc b _=>exact .inr ⟨_,_,_,_,rfl,w,hc,b, .refl _⟩
def From (st:List NS) (s:List UInt8) (first:Nat) (w:Bool) (j q:Nat):Prop:=∃ i,(w=true→i=0)∧Way st s first i q j
theorem mF_ok {st:List NS} {s:List UInt8} {first:Nat} {w:Bool} (hw:WF st) (hfi:first < st.length):∀ (cs:List UInt8) (pl:Nat) {ms:List Bool} {l:List Nat},s.drop pl=cs→pl≤s.length→Mk st.length ms l→l.length + ms.count false=st.length →
  (∀ q,q ∈ l↔∃ r k c,pl=k + 1∧From st s first w k r∧s[k]?=some c∧Bt st c r q) →
  (mF st first w s.length cs pl ms l=true↔∃ j q,pl≤j∧j≤s.length∧(w=true→j=s.length)∧From st s first w j q∧Acc st q)
 | cs,pl,ms,l,hd,hpl,hm,hc,hI=>by
  rw [mF]
  have hput:Mk st.length (mPut first w pl ms l).1 (mPut first w pl ms l).2∧(mPut first w pl ms l).2.length + (mPut first w pl ms l).1.count false=st.length∧∀ q,q ∈ (mPut first w pl ms l).2↔q ∈ l∨(q=first∧(pl=0∨w=false)):=by
   unfold mPut
   by_cases h:pl=0∨w=false
   ·rw [if_pos h]
    obtain ⟨a,b,_⟩:=putF_mk [first] hm (by simp;exact hfi)
    exact ⟨a,by rw [putF_count];exact hc,fun q=>by rw [b q];simp [h]⟩
   ·rw [if_neg h]
    exact ⟨hm,hc,fun q=>by simp [h]⟩
  obtain ⟨p1,p2,p3⟩:=hput
  obtain ⟨a1,a2⟩:=atF_ok (pl:=pl) (len:=s.length) (f:=false) hw (st.length + 1) 0 (by omega) p1 p2 (fun i q hi=>by omega) ⟨fun h=>(by cases h),fun ⟨i,_,h,_⟩=>by omega⟩
  have reach:∀ q,q ∈ (atF st pl s.length (st.length + 1) 0 (mPut first w pl ms l).1 (mPut first w pl ms l).2 false).2.1↔From st s first w pl q:=fun q=>by
   rw [a1 q]
   constructor
   ·rintro ⟨p,h,g⟩
    rcases (p3 p).1 h with h | ⟨e0,h0⟩
    ·obtain ⟨r,k,c,rfl,⟨i,i1,i2⟩,h2,h3⟩:=(hI p).1 h
     exact ⟨i,i1,(Way.byte i2 h2 h3).ec g⟩
    ·subst e0
     refine ⟨pl,fun e => ?_,(Way.refl _ _).ec g⟩
     rcases h0 with h0 | h0
     ·exact h0
     ·rw [h0] at e;cases e
   ·rintro ⟨i,i1,i2⟩
    rcases i2.last with ⟨rfl,g⟩ | ⟨r,u,c,k,h1,h2,h3,h4,h5⟩
    ·refine ⟨first,(p3 first).2 (.inr ⟨rfl, ?_⟩),g⟩
     cases w with
     | true=>exact .inl (i1 rfl)
     | false=>exact .inr rfl
    ·exact ⟨u,(p3 u).2 (.inl ((hI u).2 ⟨r,k,c,h1,⟨i,i1,h2⟩,h3,h4⟩)),h5⟩
  have accs:(atF st pl s.length (st.length + 1) 0 (mPut first w pl ms l).1 (mPut first w pl ms l).2 false).2.2=true↔∃ q,From st s first w pl q∧Acc st q:=a2.trans ⟨fun ⟨q,h1,h2⟩=>⟨q,(reach q).1 h1,h2⟩,fun ⟨q,h1,h2⟩=>⟨q,(reach q).2 h1,h2⟩⟩
  have lens:∀ q ∈ (atF st pl s.length (st.length + 1) 0 (mPut first w pl ms l).1 (mPut first w pl ms l).2 false).2.1,q < st.length:=atF_mem' hw p1.2.1
  rw [mG.eq_def]
  dsimp only
  by_cases ha:(atF st pl s.length (st.length + 1) 0 (mPut first w pl ms l).1 (mPut first w pl ms l).2 false).2.2=true∧(w=false∨pl=s.length)
  ·rw [if_pos ha]
   obtain ⟨q,h1,h2⟩:=accs.1 ha.1
   refine ⟨fun _=>⟨pl,q,Nat.le_refl _,hpl,fun e => ?_,h1,h2⟩,fun _=>rfl⟩
   rcases ha.2 with h | h
   ·rw [h] at e;cases e
   ·exact h
  ·rw [if_neg ha]
   have nothere:∀ j q,pl≤j→(w=true→j=s.length)→From st s first w j q→Acc st q→j≠pl:=fun j q _ h2 h3 h4 e=>ha ⟨accs.2 ⟨q,e ▸ h3,h4⟩,by
    cases hww:w with
    | true=>exact .inr (e ▸ h2 hww)
    | false=>exact .inl rfl⟩
   match cs,hd with
   | [],hd =>
    have:s.length≤pl:=by simpa using hd
    refine ⟨fun h=>(by cases h),fun ⟨j,q,h1,h2,h3,h4,h5⟩=>(nothere j q h1 h3 h4 h5 (by omega)).elim⟩
   | c::cs,hd =>
    have hlt:pl < s.length:=by
     rcases Nat.lt_or_ge pl s.length with h | h
     ·exact h
     ·rw [List.drop_eq_nil_of_le h] at hd;cases hd
    have hg:s[pl]?=some c:=by
     have:=congrArg (·[0]?) hd
     simpa using this
    have hd':s.drop (pl + 1)=cs:=by rw [← List.drop_drop,hd];rfl
    obtain ⟨b1,b2,b3⟩:=stepF_ok (c:=c) hw _ lens (Mk.nil st.length) (by simp)
    have ih:=mF_ok (w:=w) hw hfi cs (pl + 1) hd' (by omega) b1 b2 (fun q=>(b3 q).trans ⟨fun h=>by
     rcases h with h | ⟨p,h,g⟩
     ·cases h
     ·exact ⟨p,pl,c,rfl,(reach p).1 h,hg,g⟩,fun ⟨r,k,c2,h1,h2,h3,h4⟩=>by
     obtain rfl:pl=k:=by omega
     rw [hg] at h3;obtain rfl:=Option.some.inj h3
     exact .inr ⟨r,(reach r).2 h2,h4⟩⟩)
    refine ih.trans ⟨fun ⟨j,q,h1,h2⟩=>⟨j,q,by omega,h2⟩,fun ⟨j,q,h1,h2,h3,h4,h5⟩=>⟨j,q, ?_,h2,h3,h4,h5⟩⟩
    have:=nothere j q h1 h3 h4 h5
    omega
theorem matchF_ok {st:List NS} {s:List UInt8} {first:Nat} {w:Bool} (hw:WF st) (hfi:first < st.length):matchF st first w s=true↔∃ i j q,i≤j∧j≤s.length∧(w=true→i=0∧j=s.length)∧Way st s first i q j∧Acc st q:=by
 unfold matchF
 refine (mF_ok (w:=w) hw hfi s 0 rfl (by omega) (Mk.nil _) (by simp) (fun q=>⟨fun h=>(by cases h),fun ⟨_,_,_,h,_⟩=>by omega⟩)).trans ⟨?_, ?_⟩
 ·rintro ⟨j,q,_,h2,h3,⟨i,i1,i2⟩,h5⟩
  exact ⟨i,j,q,i2.le,h2,fun e=>⟨i1 e,h3 e⟩,i2,h5⟩
 ·rintro ⟨i,j,q,h1,h2,h3,h4,h5⟩
  exact ⟨j,q,by omega,h2,fun e=>(h3 e).2,⟨i,fun e=>(h3 e).1,h4⟩,h5⟩
abbrev PL:Type:=Nat→Nat→Prop
def CatL (L:Node→PL):List Node→PL
 | [],i,j=>i=j
 | k::ks,i,j=>∃ m,L k i m∧CatL L ks m j
def TimesL (P:PL):Nat→PL
 | 0,i,j=>i=j
 | c + 1,i,j=>∃ m,P i m∧TimesL P c m j
def StarL (P:PL):PL:=fun i j=>∃ c,TimesL P c i j
def OptL (P:PL):Nat→PL
 | 0,i,j=>i=j
 | c + 1,i,j=>∃ m,(i=m∨P i m)∧OptL P c m j
def RepL (P:PL) (z:Bool) (mn mx:Int):PL:=fun i j =>
 if mx < 0 then
  if mn=0 then StarL P i j
  else ∃ a b,TimesL P (if z then 0 else (mn - 1).toNat) i a∧P a b∧StarL P b j
 else ∃ a,TimesL P (if z then 0 else mn.toNat) i a∧OptL P (mx - mn).toNat a j
def Ln (s:List UInt8):Nat→Node→PL
 | 0,_=>fun i j=>i=j
 | d + 1,n=>fun i j =>
  if n.size=0 then i=j
  else if n.kind=1 then ∃ c,s[i]?=some c∧n.set.has c.toNat=true∧j=i + 1
  else if n.kind=2 then i=0∧j=i
  else if n.kind=3 then i=s.length∧j=i
  else if n.kind=4 then CatL (Ln s d) n.kids i j
  else if n.kind=5 then ∃ k ∈ n.kids,Ln s d k i j
  else match n.kids with
   | k::_=>RepL (Ln s d k) (k.size==0) n.mn n.mx i j
   | []=>i=j
inductive WayN (S:List NS) (s:List UInt8) (j:Nat):Nat→Nat→Nat→Prop
 | stop:WayN S s j 0 j 0
 | eps {p r i n:Nat}:Ep S i s.length p r→WayN S s j r i n→WayN S s j p i (n + 1)
 | byte {p r i n:Nat} {c:UInt8}:s[i]?=some c→Bt S c p r→WayN S s j r (i + 1) n→WayN S s j p i (n + 1)
abbrev WayE (S:List NS) (s:List UInt8) (j p i:Nat):Prop:=∃ n,WayN S s j p i n
theorem WayN.inv {S:List NS} {s:List UInt8} {j p i n:Nat} {x:NS} (h:WayN S s j p i n) (hx:S[p]?=some x) (hp:p≠0):∃ n0 r,n=n0 + 1∧r ∈ x.next∧((x.kind=1∧(∃ c,s[i]?=some c∧x.set.has c.toNat=true)∧WayN S s j r (i + 1) n0)∨((x.kind=4∨(x.kind=2∧i=0)∨(x.kind=3∧i=s.length))∧WayN S s j r i n0)):=by
 cases h with
 | stop=>exact (hp rfl).elim
 | eps e w =>
  obtain ⟨y,h1,h2,h3⟩:=e
  rw [hx] at h1;obtain rfl:=Option.some.inj h1
  exact ⟨_,_,rfl,h3, .inr ⟨h2,w⟩⟩
 | byte hc b w =>
  obtain ⟨y,h1,h2,h3,h4⟩:=b
  rw [hx] at h1;obtain rfl:=Option.some.inj h1
  exact ⟨_,_,rfl,h4, .inl ⟨h2,⟨_,hc,h3⟩,w⟩⟩
def Pre (n:Nat) (a S:List NS):Prop:=∀ i x,n≤i→a[i]?=some x→S[i]?=some x
theorem Pre.get {n:Nat} {a S:List NS} (h:Pre n a S) {k:Nat} {x:NS} (hk:a[k]?=some x) (hn:n≤k):S[k]?=some x:=h k x hn hk
theorem Pre.of {n:Nat} {a b S:List NS} (h:Pre n b S) (g:∃ x,b=a++x):Pre n a S:=fun i x hi hx=>by
 obtain ⟨y,rfl⟩:=g
 exact h i x hi (by rw [List.getElem?_append_left (List.getElem?_eq_some_iff.1 hx).1];exact hx)
theorem Pre.mono {n n':Nat} {a S:List NS} (h:Pre n a S) (hn:n≤n'):Pre n' a S:=fun i x hi hx=>h i x (by omega) hx
def Sd (S:List NS) (s:List UInt8) (j:Nat) (f:BF) (k:Node) (P:PL):Prop:=∀ q st,0 < st.length→Pre st.length (f k q st).2 S →
 (∀ i n,WayN S s j (f k q st).1 i n→∃ m n',n'≤n∧P i m∧WayN S s j q m n')∧(∀ i m,P i m→WayE S s j q m→WayE S s j (f k q st).1 i)
theorem catB_sd {S:List NS} {s:List UInt8} {j:Nat} {f:BF} (hf:Adds f) {L:Node→PL}:∀ (l:List Node) (q:Nat) (st:List NS),(∀ k ∈ l,Sd S s j f k (L k))→0 < st.length→Pre st.length (catB f l q st).2 S →
  (∀ i n,WayN S s j (catB f l q st).1 i n→∃ m n',n'≤n∧CatL L l.reverse i m∧WayN S s j q m n')∧(∀ i m,CatL L l.reverse i m→WayE S s j q m→WayE S s j (catB f l q st).1 i)
 | [],q,st,_,_,_=>⟨fun i n h=>⟨i,n,Nat.le_refl _,rfl,h⟩,fun i m h w=>by cases h;exact w⟩
 | k::l,q,st,hk,h0,hp=>by
  have app:∀ (a:List Node) (k:Node) (i m:Nat),CatL L (a++[k]) i m↔∃ b,CatL L a i b∧L k b m:=by
   intro a
   induction a with
   | nil=>intro k i m;simp [CatL]
   | cons x a ih =>
    intro k i m
    simp only [List.cons_append,CatL,ih]
    exact ⟨fun ⟨c,h1,b,h2,h3⟩=>⟨b,⟨c,h1,h2⟩,h3⟩,fun ⟨b,⟨c,h1,h2⟩,h3⟩=>⟨c,h1,b,h2,h3⟩⟩
  rw [catB] at hp ⊢
  have g:=catB_adds hf l (f k q st).1 (f k q st).2
  have h0':0 < (f k q st).2.length:=Nat.lt_of_lt_of_le h0 (len_le (hf k q st))
  obtain ⟨a1,a2⟩:=catB_sd hf l (f k q st).1 (f k q st).2 (fun x hx=>hk x (by simp [hx])) h0' (hp.mono (len_le (hf k q st)))
  obtain ⟨b1,b2⟩:=hk k (by simp) q st h0 (hp.of g)
  rw [List.reverse_cons]
  refine ⟨fun i n w => ?_,fun i m h w => ?_⟩
  ·obtain ⟨m,n',h1,h2,h3⟩:=a1 i n w
   obtain ⟨m2,n2,h4,h5,h6⟩:=b1 m n' h3
   exact ⟨m2,n2,by omega,(app _ _ _ _).2 ⟨m,h2,h5⟩,h6⟩
  ·obtain ⟨b,h1,h2⟩:=(app _ _ _ _).1 h
   exact a2 i b h1 (b2 b m h2 w)
theorem moreB_sd {S:List NS} {s:List UInt8} {j:Nat} {f:BF} (hf:Adds f) {k:Node} {P:PL} (hk:Sd S s j f k P):∀ (c q:Nat) (st:List NS),0 < st.length→Pre st.length (moreB f k c q st).2 S →
  (∀ i n,WayN S s j (moreB f k c q st).1 i n→∃ m n',n'≤n∧TimesL P c i m∧WayN S s j q m n')∧(∀ i m,TimesL P c i m→WayE S s j q m→WayE S s j (moreB f k c q st).1 i)
 | 0,q,st,_,_=>⟨fun i n h=>⟨i,n,Nat.le_refl _,rfl,h⟩,fun i m h w=>by cases h;exact w⟩
 | c + 1,q,st,h0,hp=>by
  have app:∀ (c i m:Nat),TimesL P (c + 1) i m↔∃ b,TimesL P c i b∧P b m:=by
   intro c
   induction c with
   | zero=>intro i m;simp [TimesL]
   | succ c ih =>
    intro i m
    constructor
    ·rintro ⟨a,h1,h2⟩
     obtain ⟨b,h3,h4⟩:=(ih a m).1 h2
     exact ⟨b,⟨a,h1,h3⟩,h4⟩
    ·rintro ⟨b,⟨a,h1,h3⟩,h4⟩
     exact ⟨a,h1,(ih a m).2 ⟨b,h3,h4⟩⟩
  rw [moreB] at hp ⊢
  have g:=moreB_adds hf k c (f k q st).1 (f k q st).2
  have h0':0 < (f k q st).2.length:=Nat.lt_of_lt_of_le h0 (len_le (hf k q st))
  obtain ⟨a1,a2⟩:=moreB_sd hf hk c (f k q st).1 (f k q st).2 h0' (hp.mono (len_le (hf k q st)))
  obtain ⟨b1,b2⟩:=hk q st h0 (hp.of g)
  refine ⟨fun i n w => ?_,fun i m h w => ?_⟩
  ·obtain ⟨m,n',h1,h2,h3⟩:=a1 i n w
   obtain ⟨m2,n2,h4,h5,h6⟩:=b1 m n' h3
   exact ⟨m2,n2,by omega,(app _ _ _).2 ⟨m,h2,h5⟩,h6⟩
  ·obtain ⟨b,h1,h2⟩:=(app _ _ _).1 h
   exact a2 i b h1 (b2 b m h2 w)
theorem splitS {S:List NS} {s:List UInt8} {j p i n:Nat} {ks:List Nat} {z:W4} (hx:S[p]?=some ⟨4,z,ks⟩) (hp:p≠0) (h:WayN S s j p i n):∃ n0 r,n=n0 + 1∧r ∈ ks∧WayN S s j r i n0:=by
 obtain ⟨n0,r,h1,h2,h3⟩:=h.inv hx hp
 rcases h3 with ⟨h3,_⟩ | ⟨_,h3⟩
 ·simp at h3
 ·exact ⟨n0,r,h1,h2,h3⟩
theorem splitC {S:List NS} {s:List UInt8} {j p i r:Nat} {ks:List Nat} {z:W4} (hx:S[p]?=some ⟨4,z,ks⟩) (hr:r ∈ ks) (h:WayE S s j r i):WayE S s j p i:=by
 obtain ⟨n,h⟩:=h
 exact ⟨n + 1, .eps ⟨_,hx, .inl rfl,hr⟩ h⟩
theorem altB_sd {S:List NS} {s:List UInt8} {j:Nat} {f:BF} (hf:Adds f) {L:Node→PL} {q:Nat}:∀ (l:List Node) (all:List Nat) (st:List NS),(∀ k ∈ l,Sd S s j f k (L k))→0 < st.length→Pre st.length (altB f q l all st).2 S →
  ∃ new,(altB f q l all st).1=all++new∧(∀ r ∈ new,∀ i n,WayN S s j r i n→∃ k ∈ l,∃ m n',n'≤n∧L k i m∧WayN S s j q m n')∧(∀ k ∈ l,∀ i m,L k i m→WayE S s j q m→∃ r ∈ new,WayE S s j r i)
 | [],all,st,_,_,_=>⟨[],by simp [altB],by simp,by simp⟩
 | k::l,all,st,hk,h0,hp=>by
  rw [altB] at hp ⊢
  have g:=altB_adds hf q l (all++[(f k q st).1]) (f k q st).2
  have h0':0 < (f k q st).2.length:=Nat.lt_of_lt_of_le h0 (len_le (hf k q st))
  obtain ⟨new,a0,a1,a2⟩:=altB_sd hf (q:=q) l (all++[(f k q st).1]) (f k q st).2 (fun x hx=>hk x (by simp [hx])) h0' (hp.mono (len_le (hf k q st)))
  obtain ⟨b1,b2⟩:=hk k (by simp) q st h0 (hp.of g)
  refine ⟨(f k q st).1::new,by rw [a0];simp,fun r hr i n w => ?_,fun x hx i m h w => ?_⟩
  ·rcases List.mem_cons.1 hr with rfl | hr
   ·obtain ⟨m,n',h⟩:=b1 i n w
    exact ⟨k,by simp,m,n',h⟩
   ·obtain ⟨x,hx,h⟩:=a1 r hr i n w
    exact ⟨x,by simp [hx],h⟩
  ·rcases List.mem_cons.1 hx with rfl | hx
   ·exact ⟨_,by simp,b2 i m h w⟩
   ·obtain ⟨r,hr,h⟩:=a2 x hx i m h w
    exact ⟨r,by simp [hr],h⟩
theorem optB_sd {S:List NS} {s:List UInt8} {j:Nat} {f:BF} (hf:Adds f) {k:Node} {P:PL} (hk:Sd S s j f k P):∀ (c q:Nat) (st:List NS),0 < st.length→Pre st.length (optB f k c q st).2 S →
  (∀ i n,WayN S s j (optB f k c q st).1 i n→∃ m n',n'≤n∧OptL P c i m∧WayN S s j q m n')∧(∀ i m,OptL P c i m→WayE S s j q m→WayE S s j (optB f k c q st).1 i)
 | 0,q,st,_,_=>⟨fun i n h=>⟨i,n,Nat.le_refl _,rfl,h⟩,fun i m h w=>by cases h;exact w⟩
 | c + 1,q,st,h0,hp=>by
  have app:∀ (c i m:Nat),OptL P (c + 1) i m↔∃ b,OptL P c i b∧(b=m∨P b m):=by
   intro c
   induction c with
   | zero=>intro i m;simp [OptL]
   | succ c ih =>
    intro i m
    constructor
    ·rintro ⟨a,h1,h2⟩
     obtain ⟨b,h3,h4⟩:=(ih a m).1 h2
     exact ⟨b,⟨a,h1,h3⟩,h4⟩
    ·rintro ⟨b,⟨a,h1,h3⟩,h4⟩
     exact ⟨a,h1,(ih a m).2 ⟨b,h3,h4⟩⟩
  rw [optB] at hp ⊢
  have g:=optB_adds hf k c (f k q st).2.length ((f k q st).2++[⟨4,W4.zero,[q,(f k q st).1]⟩])
  have h0':0 < (f k q st).2.length:=Nat.lt_of_lt_of_le h0 (len_le (hf k q st))
  have hp1:=hp.of g
  have hx:S[(f k q st).2.length]?=some ⟨4,W4.zero,[q,(f k q st).1]⟩:=hp1.get (by simp) (len_le (hf k q st))
  obtain ⟨a1,a2⟩:=optB_sd hf hk c (f k q st).2.length ((f k q st).2++[⟨4,W4.zero,[q,(f k q st).1]⟩]) (by simp) (hp.mono (by have:=len_le (hf k q st);simp;omega))
  obtain ⟨b1,b2⟩:=hk q st h0 (hp1.of ⟨_,rfl⟩)
  refine ⟨fun i n w => ?_,fun i m h w => ?_⟩
  ·obtain ⟨m,n',h1,h2,h3⟩:=a1 i n w
   obtain ⟨n0,r,e,hr,h4⟩:=splitS hx (by omega) h3
   simp only [List.mem_cons,List.not_mem_nil,or_false] at hr
   rcases hr with rfl | rfl
   ·exact ⟨m,n0,by omega,(app _ _ _).2 ⟨m,h2, .inl rfl⟩,h4⟩
   ·obtain ⟨m2,n2,h5,h6,h7⟩:=b1 m n0 h4
    exact ⟨m2,n2,by omega,(app _ _ _).2 ⟨m,h2, .inr h6⟩,h7⟩
  ·obtain ⟨b,h1,h2⟩:=(app _ _ _).1 h
   refine a2 i b h1 ?_
   rcases h2 with rfl | h2
   ·exact splitC hx (by simp) w
   ·exact splitC (r:=(f k q st).1) hx (by simp) (b2 b m h2 w)
theorem loop_sd {S:List NS} {s:List UInt8} {j:Nat} {f:BF} (hf:Adds f) {k:Node} {P:PL} (hk:Sd S s j f k P) {q:Nat} {st:List NS} (h0:0 < st.length) (hp:Pre st.length (loopB f k q st).2 S) :
  ((∀ i n,WayN S s j st.length i n→∃ m n',n'≤n∧StarL P i m∧WayN S s j q m n')∧(∀ i m,StarL P i m→WayE S s j q m→WayE S s j st.length i)) ∧
  ((∀ i n,WayN S s j (loopB f k q st).1 i n→∃ m n',n'≤n∧P i m∧WayN S s j st.length m n')∧(∀ i m,P i m→WayE S s j st.length m→WayE S s j (loopB f k q st).1 i)):=by
 have e:=hf k st.length (st++[⟨4,W4.zero,[q]⟩])
 have hx:S[st.length]?=some ⟨4,W4.zero,[q,(loopB f k q st).1]⟩:=by
  obtain ⟨x,e⟩:=e
  refine hp.get ?_ (Nat.le_refl _)
  unfold loopB
  rw [List.getElem?_set_self]
  rw [e];simp
 have hp':Pre (st++[(⟨4,W4.zero,[q]⟩:NS)]).length (f k st.length (st++[⟨4,W4.zero,[q]⟩])).2 S:=fun i x hi hx=>by
  simp at hi
  refine hp i x (by omega) ?_
  unfold loopB
  rw [List.getElem?_set_ne (by omega)];exact hx
 obtain ⟨b1,b2⟩:=hk st.length (st++[⟨4,W4.zero,[q]⟩]) (by simp) hp'
 have star:∀ N n,n≤N→∀ i,WayN S s j st.length i n→∃ m n',n'≤n∧StarL P i m∧WayN S s j q m n':=by
  intro N
  induction N with
  | zero =>
   intro n hn i w
   obtain ⟨n0,r,h1,_⟩:=splitS hx (by omega) w
   omega
  | succ N ih =>
   intro n hn i w
   obtain ⟨n0,r,h1,hr,h2⟩:=splitS hx (by omega) w
   simp only [List.mem_cons,List.not_mem_nil,or_false] at hr
   rcases hr with rfl | rfl
   ·exact ⟨i,n0,by omega,⟨0,rfl⟩,h2⟩
   ·obtain ⟨m,n',h3,h4,h5⟩:=b1 i n0 h2
    obtain ⟨m2,n2,h6,⟨c,h7⟩,h8⟩:=ih n' (by omega) m h5
    exact ⟨m2,n2,by omega,⟨c + 1,m,h4,h7⟩,h8⟩
 have back:∀ c i m,TimesL P c i m→WayE S s j q m→WayE S s j st.length i:=by
  intro c
  induction c with
  | zero=>intro i m h w;cases h;exact splitC hx (by simp) w
  | succ c ih =>
   rintro i m ⟨a,h1,h2⟩ w
   exact splitC (r:=(loopB f k q st).1) hx (by simp) (b2 i a h1 (ih a m h2 w))
 exact ⟨⟨fun i n w=>star n n (Nat.le_refl _) i w,fun i m ⟨c,h⟩ w=>back c i m h w⟩,b1,b2⟩
theorem repB_sd {S:List NS} {s:List UInt8} {j:Nat} {f:BF} (hf:Adds f) {k:Node} {P:PL} (hk:Sd S s j f k P) (mn mx:Int) {q:Nat} {st:List NS} (h0:0 < st.length) (hp:Pre st.length (repB f mn mx k q st).2 S) :
  (∀ i n,WayN S s j (repB f mn mx k q st).1 i n→∃ m n',n'≤n∧RepL P (k.size==0) mn mx i m∧WayN S s j q m n')∧(∀ i m,RepL P (k.size==0) mn mx i m→WayE S s j q m→WayE S s j (repB f mn mx k q st).1 i):=by
 have zc:∀ c:Nat,(if (k.size==0)=true then 0 else c)=(if k.size=0 then 0 else c):=fun c=>by simp
 unfold repB at hp ⊢
 unfold RepL
 simp only [zc]
 by_cases hx:mx < 0
 ·simp only [if_pos hx] at hp ⊢
  by_cases hm:mn=0
  ·simp only [if_pos hm] at hp ⊢
   exact (loop_sd hf hk h0 hp).1
  ·simp only [if_neg hm] at hp ⊢
   have g:=moreB_adds hf k (if k.size=0 then 0 else (mn - 1).toNat) (loopB f k q st).1 (loopB f k q st).2
   have g2:=len_le (loopB_adds hf k q st)
   obtain ⟨⟨a1,a2⟩,b1,b2⟩:=loop_sd hf hk h0 (hp.of g)
   obtain ⟨c1,c2⟩:=moreB_sd hf hk _ _ _ (Nat.lt_of_lt_of_le h0 g2) (hp.mono g2)
   refine ⟨fun i n w => ?_,fun i m ⟨a,b,h1,h2,h3⟩ w=>c2 i a h1 (b2 a b h2 (a2 b m h3 w))⟩
   obtain ⟨a,n1,h1,h2,h3⟩:=c1 i n w
   obtain ⟨b,n2,h4,h5,h6⟩:=b1 a n1 h3
   obtain ⟨m,n3,h7,h8,h9⟩:=a1 b n2 h6
   exact ⟨m,n3,by omega,⟨a,b,h2,h5,h8⟩,h9⟩
 ·simp only [if_neg hx] at hp ⊢
  have g:=moreB_adds hf k (if k.size=0 then 0 else mn.toNat) (optB f k (mx - mn).toNat q st).1 (optB f k (mx - mn).toNat q st).2
  have g2:=len_le (optB_adds hf k (mx - mn).toNat q st)
  obtain ⟨a1,a2⟩:=optB_sd hf hk _ _ _ h0 (hp.of g)
  obtain ⟨c1,c2⟩:=moreB_sd hf hk _ _ _ (Nat.lt_of_lt_of_le h0 g2) (hp.mono g2)
  refine ⟨fun i n w => ?_,fun i m ⟨a,h1,h2⟩ w=>c2 i a h1 (a2 a m h2 w)⟩
  obtain ⟨a,n1,h1,h2,h3⟩:=c1 i n w
  obtain ⟨m,n2,h4,h5,h6⟩:=a1 a n1 h3
  exact ⟨m,n2,by omega,⟨a,h2,h5⟩,h6⟩
theorem buildF_sd {S:List NS} {s:List UInt8} {j:Nat}:∀ (d:Nat) (n:Node),Sd S s j (buildF d) n (Ln s d n)
 | 0,n=>fun q st _ _=>⟨fun i n h=>⟨i,n,Nat.le_refl _,rfl,h⟩,fun i m h w=>by cases h;exact w⟩
 | d + 1,n=>fun q st h0 hp=>by
  have ad:=buildF_adds d
  have ih:∀ k,Sd S s j (buildF d) k (Ln s d k):=fun k=>buildF_sd d k
  unfold buildF at hp ⊢
  simp only [Ln]
  by_cases hz:n.size=0
  ·simp only [if_pos hz]
   exact ⟨fun i n h=>⟨i,n,Nat.le_refl _,rfl,h⟩,fun i m h w=>by cases h;exact w⟩
  simp only [if_neg hz] at hp ⊢
  by_cases k1:n.kind=1
  ·simp only [if_pos k1] at hp ⊢
   have hx:S[st.length]?=some ⟨1,n.set,[q]⟩:=hp.get (by simp) (Nat.le_refl _)
   refine ⟨fun i n w => ?_,fun i m ⟨c,h1,h2,h3⟩ ⟨n0,w⟩ => ?_⟩
   ·obtain ⟨n0,r,h1,h2,h3⟩:=w.inv hx (by omega)
    obtain rfl:r=q:=by simpa using h2
    rcases h3 with ⟨_,⟨c,h4,h5⟩,h6⟩ | ⟨h3,_⟩
    ·exact ⟨i + 1,n0,by omega,⟨c,h4,h5,rfl⟩,h6⟩
    ·simp at h3
   ·subst h3
    exact ⟨n0 + 1, .byte h1 ⟨_,hx,rfl,h2,by simp⟩ w⟩
  simp only [if_neg k1] at hp ⊢
  by_cases k2:n.kind=2
  ·simp only [if_pos k2] at hp ⊢
   have hx:S[st.length]?=some ⟨2,W4.zero,[q]⟩:=hp.get (by simp) (Nat.le_refl _)
   refine ⟨fun i n w => ?_,fun i m ⟨h1,h3⟩ ⟨n0,w⟩ => ?_⟩
   ·obtain ⟨n0,r,h1,h2,h3⟩:=w.inv hx (by omega)
    obtain rfl:r=q:=by simpa using h2
    rcases h3 with ⟨h3,_⟩ | ⟨h3,h6⟩
    ·simp at h3
    ·exact ⟨i,n0,by omega,⟨by simpa using h3,rfl⟩,h6⟩
   ·subst h3
    exact ⟨n0 + 1, .eps ⟨_,hx, .inr (.inl ⟨rfl,h1⟩),by simp⟩ w⟩
  simp only [if_neg k2] at hp ⊢
  by_cases k3:n.kind=3
  ·simp only [if_pos k3] at hp ⊢
   have hx:S[st.length]?=some ⟨3,W4.zero,[q]⟩:=hp.get (by simp) (Nat.le_refl _)
   refine ⟨fun i n w => ?_,fun i m ⟨h1,h3⟩ ⟨n0,w⟩ => ?_⟩
   ·obtain ⟨n0,r,h1,h2,h3⟩:=w.inv hx (by omega)
    obtain rfl:r=q:=by simpa using h2
    rcases h3 with ⟨h3,_⟩ | ⟨h3,h6⟩
    ·simp at h3
    ·exact ⟨i,n0,by omega,⟨by simpa using h3,rfl⟩,h6⟩
   ·subst h3
    exact ⟨n0 + 1, .eps ⟨_,hx, .inr (.inr ⟨rfl,h1⟩),by simp⟩ w⟩
  simp only [if_neg k3] at hp ⊢
  by_cases k4:n.kind=4
  ·simp only [if_pos k4] at hp ⊢
   have:=catB_sd (S:=S) (s:=s) (j:=j) ad (L:=Ln s d) n.kids.reverse q st (fun k _=>ih k) h0 hp
   rw [List.reverse_reverse] at this
   exact this
  simp only [if_neg k4] at hp ⊢
  by_cases k5:n.kind=5
  ·simp only [if_pos k5] at hp ⊢
   have g2:=len_le (altB_adds ad q n.kids [] st)
   have hx:S[(altB (buildF d) q n.kids [] st).2.length]?=some ⟨4,W4.zero,(altB (buildF d) q n.kids [] st).1⟩:=hp.get (by simp) g2
   obtain ⟨new,a0,a1,a2⟩:=altB_sd (S:=S) (s:=s) (j:=j) ad (L:=Ln s d) (q:=q) n.kids [] st (fun k _=>ih k) h0 (hp.of ⟨_,rfl⟩)
   rw [List.nil_append] at a0
   refine ⟨fun i n w => ?_,fun i m ⟨k,hk,h⟩ w => ?_⟩
   ·obtain ⟨n0,r,h1,hr,h2⟩:=splitS hx (by omega) w
    rw [a0] at hr
    obtain ⟨k,hk,m,n',h3,h4,h5⟩:=a1 r hr i n0 h2
    exact ⟨m,n',by omega,⟨k,hk,h4⟩,h5⟩
   ·obtain ⟨r,hr,h2⟩:=a2 k hk i m h w
    exact splitC hx (by rw [a0];exact hr) h2
  simp only [if_neg k5] at hp ⊢
  cases hk:n.kids with
  | nil=>exact ⟨fun i n h=>⟨i,n,Nat.le_refl _,rfl,h⟩,fun i m h w=>by cases h;exact w⟩
  | cons k l =>
   rw [hk] at hp
   exact repB_sd ad (ih k) n.mn n.mx h0 hp
def Kd (n:Nat) (a:List NS):Prop:=∀ i x,n≤i→a[i]?=some x→x.kind≠0
theorem Kd.app {n:Nat} {a:List NS} {x:NS} (h:Kd n a) (hx:x.kind≠0):Kd n (a++[x]):=fun i y hi hy=>by
 rcases Nat.lt_or_ge i a.length with hl | hl
 ·rw [List.getElem?_append_left hl] at hy;exact h i y hi hy
 ·rw [List.getElem?_append_right hl] at hy
  have:=List.mem_of_getElem? hy
  obtain rfl:y=x:=by simpa using this
  exact hx
theorem Kd.set {n k:Nat} {a:List NS} {x:NS} (h:Kd n a) (hx:x.kind≠0):Kd n (a.set k x):=fun i y hi hy=>by
 by_cases e:k=i
 ·subst e
  have hl:k < a.length:=by have:=(List.getElem?_eq_some_iff.1 hy).1;simpa using this
  rw [List.getElem?_set_self hl] at hy
  obtain rfl:=Option.some.inj hy
  exact hx
 ·rw [List.getElem?_set_ne e] at hy;exact h i y hi hy
def KG (f:BF):Prop:=∀ k q st n,Kd n st→Kd n (f k q st).2
theorem catB_kd {f:BF} (h:KG f) {n:Nat}:∀ (l:List Node) (q:Nat) (st:List NS),Kd n st→Kd n (catB f l q st).2
 | [],_,_,g=>g
 | k::l,q,st,g=>by rw [catB];exact catB_kd h l _ _ (h k q st n g)
theorem altB_kd {f:BF} (h:KG f) {n q:Nat}:∀ (l:List Node) (a:List Nat) (st:List NS),Kd n st→Kd n (altB f q l a st).2
 | [],_,_,g=>g
 | k::l,a,st,g=>by rw [altB];exact altB_kd h l _ _ (h k q st n g)
theorem moreB_kd {f:BF} (h:KG f) {n:Nat} {k:Node}:∀ (c q:Nat) (st:List NS),Kd n st→Kd n (moreB f k c q st).2
 | 0,_,_,g=>g
 | c + 1,q,st,g=>by rw [moreB];exact moreB_kd h c _ _ (h k q st n g)
theorem optB_kd {f:BF} (h:KG f) {n:Nat} {k:Node}:∀ (c q:Nat) (st:List NS),Kd n st→Kd n (optB f k c q st).2
 | 0,_,_,g=>g
 | c + 1,q,st,g=>by rw [optB];exact optB_kd h c _ _ ((h k q st n g).app (by simp))
theorem buildF_kd:∀ d,KG (buildF d)
 | 0=>fun _ _ _ _ g=>g
 | d + 1=>fun k q st n g=>by
  have ih:=buildF_kd d
  have lp:∀ k q st,Kd n st→Kd n (loopB (buildF d) k q st).2:=fun k q st g=>by
   unfold loopB
   exact (ih k _ _ n (g.app (by simp))).set (by simp)
  unfold buildF
  split; · exact g
  split; · exact g.app (by simp)
  split; · exact g.app (by simp)
  split; · exact g.app (by simp)
  split; · exact catB_kd ih _ _ _ g
  split; · exact (altB_kd ih _ _ _ g).app (by simp)
  split
  ·unfold repB
   split
   ·split
    ·exact lp _ _ _ g
    ·exact moreB_kd ih _ _ _ (lp _ _ _ g)
   ·exact moreB_kd ih _ _ _ (optB_kd ih _ _ _ g)
  ·exact g
theorem way_n {S:List NS} {s:List UInt8} {p i q j:Nat} (h:Way S s p i q j) {e:Nat}:∀ {n},WayN S s e q j n→WayE S s e p i:=by
 induction h with
 | refl=>intro n w;exact ⟨n,w⟩
 | eps _ ep ih=>intro n w;exact ih (.eps ep w)
 | byte _ hc b ih=>intro n w;exact ih (.byte hc b w)
theorem Way.trans {S:List NS} {s:List UInt8} {p i q j r k:Nat} (h:Way S s p i q j) (g:Way S s q j r k):Way S s p i r k:=by
 induction g with
 | refl=>exact h
 | eps _ e ih=>exact .eps ih e
 | byte _ hc b ih=>exact .byte ih hc b
theorem n_way {S:List NS} {s:List UInt8} {e p i n:Nat} (h:WayN S s e p i n):Way S s p i 0 e:=by
 induction h with
 | stop=>exact .refl _ _
 | eps ep _ ih=>exact Way.trans (.eps (.refl _ _) ep) ih
 | byte hc b _ ih=>exact Way.trans (.byte (.refl _ _) hc b) ih
theorem way_end {S:List NS} {s:List UInt8} {q j:Nat} (hq:S[0]?=some ⟨0,W4.zero,[]⟩) (ha:Acc S q) (hk:Kd 1 S):q=0:=by
 obtain ⟨x,h1,h2⟩:=ha
 rcases Nat.eq_zero_or_pos q with h | h
 ·exact h
 ·exact (hk q x h h1 h2).elim
theorem prog_lang {d:Nat} {n:Node} {s:List UInt8} {w:Bool} (hw:WF (progF d n).2) (hf:(progF d n).1 < (progF d n).2.length):matchF (progF d n).2 (progF d n).1 w s=true↔∃ i j,i≤j∧j≤s.length∧(w=true→i=0∧j=s.length)∧Ln s d n i j:=by
 have hp:Pre 1 (buildF d n 0 [⟨0,W4.zero,[]⟩]).2 (progF d n).2:=fun i x _ hx=>hx
 have h0:(progF d n).2[0]?=some ⟨0,W4.zero,[]⟩:=by
  obtain ⟨x,e⟩:=buildF_adds d n 0 [⟨0,W4.zero,[]⟩]
  unfold progF;rw [e];rfl
 have hk:Kd 1 (progF d n).2:=buildF_kd d n 0 [⟨0,W4.zero,[]⟩] 1 (fun i x hi hx=>by
  have:=(List.getElem?_eq_some_iff.1 hx).1
  simp at this;omega)
 rw [matchF_ok hw hf]
 constructor
 ·rintro ⟨i,j,q,h1,h2,h3,h4,h5⟩
  obtain rfl:=way_end (s:=s) (j:=j) h0 h5 hk
  obtain ⟨n1,w1⟩:=way_n h4 (WayN.stop (S:=(progF d n).2) (s:=s) (j:=j))
  obtain ⟨m,n',_,l,w2⟩:=(buildF_sd (S:=(progF d n).2) (s:=s) (j:=j) d n 0 [⟨0,W4.zero,[]⟩] (by simp) hp).1 i n1 w1
  have hm:m=j:=by
   cases w2 with
   | stop=>rfl
   | eps e _=>obtain ⟨y,g1,g2,g3⟩:=e;rw [h0] at g1;obtain rfl:=Option.some.inj g1;cases g3
   | byte _ e _=>obtain ⟨y,g1,g2,g3,g4⟩:=e;rw [h0] at g1;obtain rfl:=Option.some.inj g1;cases g4
  exact ⟨i,j,h1,h2,h3,hm ▸ l⟩
 ·rintro ⟨i,j,h1,h2,h3,h4⟩
  obtain ⟨n1,w1⟩:=(buildF_sd (S:=(progF d n).2) (s:=s) (j:=j) d n 0 [⟨0,W4.zero,[]⟩] (by simp) hp).2 i j h4 ⟨0, .stop⟩
  exact ⟨i,j,0,h1,h2,h3,n_way w1,_,h0,rfl⟩
end Go.Proofs.YtanopbolgfcojaaGreatDoor.E.SZ.N
namespace Go.Proofs.YtanopbolgfcojaaGreatDoor.E.SZ
open Go Go.Proofs E E.R
theorem good (m:Int):GoodC (cfg m):=by
 refine good_of (tab m).ty (fun g v h => ?_) (fun f e h => ?_)
 ·have h:glob m g=some v:=h
  unfold glob at h
  simp only [cond_eq_ite] at h
  intro n
  split at h
  ·cases h;exact tab_c
  split at h
  ·cases h;rfl
  split at h
  ·cases h;rfl
  ·cases h
 ·have h:ext f=some e:=h
  unfold ext at h
  simp only [cond_eq_ite] at h
  split at h
  ·cases h;exact ix_c
  split at h
  ·cases h;exact join_c
  split at h
  ·cases h;exact fmt_c
  split at h
  ·cases h;exact pi_c (fun n=>rfl) (fun n=>rfl)
  ·cases h
end Go.Proofs.YtanopbolgfcojaaGreatDoor.E.SZ
namespace Go.Proofs.YtanopbolgfcojaaGreatDoor.E.SZ.N
open Go Go.Proofs E E.R
section
variable {s:List UInt8}
theorem CatL_congr {L M:Node→PL}:∀ {l:List Node},(∀ k ∈ l,L k=M k)→CatL L l=CatL M l
 | [],_=>rfl
 | k::l,h=>by
  funext i j
  show (∃ m,L k i m∧CatL L l m j)=∃ m,M k i m∧CatL M l m j
  rw [h k (by simp),CatL_congr (l:=l) fun q hq=>h q (by simp [hq])]
theorem Ln_fuel:∀ (d e:Nat) (n:Node),Norm d n→Norm e n→Ln s d n=Ln s e n
 | 0,_,_,h,_=>h.elim
 | _ + 1,0,_,_,h=>h.elim
 | d + 1,e + 1,n,h,g=>by
  have ih:∀ k ∈ n.kids,Ln s d k=Ln s e k:=fun k hk=>Ln_fuel d e k (h.2 k hk) (g.2 k hk)
  have ha:∀ i j,(∃ k ∈ n.kids,Ln s d k i j)=∃ k ∈ n.kids,Ln s e k i j:=fun i j=>by
   apply propext
   constructor
   ·rintro ⟨k,hk,h⟩;exact ⟨k,hk,by rw [← ih k hk];exact h⟩
   ·rintro ⟨k,hk,h⟩;exact ⟨k,hk,by rw [ih k hk];exact h⟩
  funext i j
  unfold Ln
  rw [CatL_congr ih,ha]
  cases hk:n.kids with
  | nil=>rfl
  | cons k ks=>dsimp only;rw [ih k (by rw [hk];simp)]
def LN (s:List UInt8) (n:Node):PL:=fun i j=>∃ d,Norm d n∧Ln s d n i j
theorem LN_eq {d:Nat} {n:Node} (h:Norm d n):LN s n=Ln s d n:=by
 funext i j
 apply propext
 constructor
 ·rintro ⟨e,g,w⟩;rw [Ln_fuel d e n h g];exact w
 ·exact fun w=>⟨d,h,w⟩
theorem LN_node {n:Node} (h:NormE n):LN s n=fun i j =>
  if n.size=0 then i=j
  else if n.kind=1 then ∃ c,s[i]?=some c∧n.set.has c.toNat=true∧j=i + 1
  else if n.kind=2 then i=0∧j=i
  else if n.kind=3 then i=s.length∧j=i
  else if n.kind=4 then CatL (LN s) n.kids i j
  else if n.kind=5 then ∃ k ∈ n.kids,LN s k i j
  else match n.kids with
   | k::_=>RepL (LN s k) (k.size==0) n.mn n.mx i j
   | []=>i=j:=by
 obtain ⟨d,hd⟩:=h
 rw [LN_eq hd]
 cases d with
 | zero=>exact hd.elim
 | succ d =>
  have ih:∀ k ∈ n.kids,Ln s d k=LN s k:=fun k hk=>(LN_eq (hd.2 k hk)).symm
  have ha:∀ i j,(∃ k ∈ n.kids,Ln s d k i j)=∃ k ∈ n.kids,LN s k i j:=fun i j=>by
   apply propext
   constructor
   ·rintro ⟨k,hk,h⟩;exact ⟨k,hk,by rw [← ih k hk];exact h⟩
   ·rintro ⟨k,hk,h⟩;exact ⟨k,hk,by rw [ih k hk];exact h⟩
  funext i j
  unfold Ln
  rw [CatL_congr ih,ha]
  cases hk:n.kids with
  | nil=>rfl
  | cons k ks=>dsimp only;rw [ih k (by rw [hk];simp)]
theorem LN_zero {n:Node} (h:NormE n) (hz:n.size=0):LN s n=fun i j=>i=j:=by
 rw [LN_node h];funext i j;rw [if_pos hz]
theorem empty_size:Node.empty.size=0:=by rw [Node.size_eq];rfl
theorem LN_empty:LN s Node.empty=fun i j=>i=j:=LN_zero empty_norm empty_size
theorem sumS_zero:∀ {l:List Node},sumS l=0→∀ k ∈ l,k.size=0
 | [],_,_,hk=>by cases hk
 | x::l,h,k,hk=>by
  have h1:=sumS_nn l
  have h2:=size_bd x
  simp only [sumS] at h
  rcases List.mem_cons.1 hk with rfl | hk
  ·omega
  ·exact sumS_zero (by omega) k hk
theorem CatL_id {L:Node→PL}:∀ {l:List Node},(∀ k ∈ l,L k=fun i j=>i=j)→CatL L l=fun i j=>i=j
 | [],_=>rfl
 | k::l,h=>by
  funext i j
  show (∃ m,L k i m∧CatL L l m j)=_
  rw [h k (by simp),CatL_id (l:=l) fun q hq=>h q (by simp [hq])]
  simp
theorem CatL_app {L:Node→PL}:∀ {l r:List Node} {i j:Nat},CatL L (l++r) i j↔∃ m,CatL L l i m∧CatL L r m j
 | [],r,i,j=>by simp [CatL]
 | k::l,r,i,j=>by
  simp only [List.cons_append,CatL,CatL_app (l:=l)]
  exact ⟨fun ⟨c,h1,b,h2,h3⟩=>⟨b,⟨c,h1,h2⟩,h3⟩,fun ⟨b,⟨c,h1,h2⟩,h3⟩=>⟨c,h1,b,h2,h3⟩⟩
theorem CatL_one {L:Node→PL} {k:Node}:CatL L [k]=L k:=by
 funext i j
 simp [CatL]
theorem LN_cat {l:List Node} (h:NormE (.mk 4 W4.zero 0 0 l)):LN s (.mk 4 W4.zero 0 0 l)=CatL (LN s) l:=by
 by_cases hz:(Node.mk 4 W4.zero 0 0 l).size=0
 ·rw [LN_zero h hz]
  have e:(Node.mk 4 W4.zero 0 0 l).size=sumC (l.map Node.size) 0:=by rw [Node.size_eq];rfl
  rw [e] at hz
  have e1:=sumC_ge l 0 (by omega) (by omega)
  have e2:=sumS_zero (l:=l) (by omega)
  exact (CatL_id fun k hk=>LN_zero (h.kid hk) (e2 k hk)).symm
 ·rw [LN_node h];funext i j
  rw [if_neg hz,if_neg (by simp [Node.kind]),if_neg (by simp [Node.kind]),if_neg (by simp [Node.kind]),if_pos (by simp [Node.kind])];rfl
theorem alt_size {l:List Node} (hl:2≤l.length):(Node.mk 5 W4.zero 0 0 l).size≠0:=by
 have e:(Node.mk 5 W4.zero 0 0 l).size=max (min (sumC (l.map Node.size) 0 + (l.map Node.size).length - 1) 1000000) 0:=by rw [Node.size_eq];rfl
 have:=sumC_bd (l.map Node.size) 0 (by omega)
 rw [e,List.length_map]
 omega
theorem LN_alt {l:List Node} (h:NormE (.mk 5 W4.zero 0 0 l)):LN s (.mk 5 W4.zero 0 0 l)=fun i j=>∃ k ∈ l,LN s k i j:=by
 have hl:2≤l.length:=by
  have hs:=h.shape
  cases hs;assumption
 rw [LN_node h];funext i j
 rw [if_neg (alt_size hl),if_neg (by simp [Node.kind]),if_neg (by simp [Node.kind]),if_neg (by simp [Node.kind]),if_neg (by simp [Node.kind]),if_pos (by simp [Node.kind])];rfl
theorem LN_pieces {n:Node} (h:NormE n):CatL (LN s) (pieces n)=LN s n:=by
 have hs:=h.shape
 unfold pieces
 cases hs with
 | empty=>exact LN_empty.symm
 | cat l _ _=>exact (LN_cat h).symm
 | one w hw=>exact CatL_one
 | beg=>exact CatL_one
 | fin=>exact CatL_one
 | alt l _ _=>exact CatL_one
 | rep a b q=>exact CatL_one
theorem LN_mkC {f:List Node} (h:NormE (mkC f)):LN s (mkC f)=CatL (LN s) f:=by
 match f with
 | []=>exact LN_empty
 | [n]=>exact CatL_one.symm
 | a::b::f=>exact LN_cat h
theorem CatL_flat:∀ {l:List Node},(∀ n ∈ l,NormE n)→CatL (LN s) ((l.map pieces).flatten)=CatL (LN s) l
 | [],_=>rfl
 | n::l,h=>by
  funext i j
  rw [List.map_cons,List.flatten_cons]
  apply propext
  rw [CatL_app,LN_pieces (h n (by simp)),CatL_flat (l:=l) fun q hq=>h q (by simp [hq])]
  rfl
theorem LN_catF {l:List Node} (h:∀ n ∈ l,NormE n):LN s (catF l)=CatL (LN s) l:=by
 have e:=catF_mk fun n hn=>(h n hn).shape
 have hn:=cat_norm h
 rw [e] at hn ⊢
 rw [LN_mkC hn,CatL_flat h]
theorem LN_fl5 {n:Node} (h:NormE n) (i j:Nat):(∃ k ∈ fl5 n,LN s k i j)↔LN s n i j:=by
 have hs:=h.shape
 unfold fl5
 cases hs with
 | alt l _ _=>rw [LN_alt h];exact Iff.rfl
 | empty=>simp [Node.kind]
 | cat l _ _=>simp [Node.kind]
 | one w hw=>simp [Node.kind]
 | beg=>simp [Node.kind]
 | fin=>simp [Node.kind]
 | rep a b q=>simp [Node.kind]
theorem LN_flat5:∀ {l:List Node},(∀ n ∈ l,NormE n)→∀ i j,(∃ k ∈ flatF 5 l,LN s k i j)↔∃ n ∈ l,LN s n i j
 | [],_,i,j=>by simp [flatF]
 | n::l,h,i,j=>by
  have h1:=LN_fl5 (s:=s) (h n (by simp)) i j
  have h2:=LN_flat5 (l:=l) (fun q hq=>h q (by simp [hq])) i j
  rw [flatF_cons]
  constructor
  ·rintro ⟨k,hk,w⟩
   rcases List.mem_append.1 hk with hk | hk
   ·exact ⟨n,by simp,h1.1 ⟨k,hk,w⟩⟩
   ·obtain ⟨q,hq,w⟩:=h2.1 ⟨k,hk,w⟩
    exact ⟨q,by simp [hq],w⟩
  ·rintro ⟨q,hq,w⟩
   rcases List.mem_cons.1 hq with rfl | hq
   ·obtain ⟨k,hk,w⟩:=h1.2 w
    exact ⟨k,List.mem_append_left _ hk,w⟩
   ·obtain ⟨k,hk,w⟩:=h2.2 ⟨q,hq,w⟩
    exact ⟨k,List.mem_append_right _ hk,w⟩
theorem LN_endF {l:List Node} (hl:2≤l.length) (h:∀ n ∈ l,NormE n):LN s (endF l)=fun i j=>∃ n ∈ l,LN s n i j:=by
 have hn:=endF_norm (l:=l) (by intro e;rw [e] at hl;simp at hl) h
 rw [endF_2 hl] at hn ⊢
 rw [LN_alt hn]
 funext i j
 exact propext (LN_flat5 h i j)
def Up (s:List UInt8) (P:PL):Prop:=∀ i j,P i j→i≤j∧(i≤s.length→j≤s.length)
theorem up_cat {L:Node→PL}:∀ {l:List Node},(∀ k ∈ l,Up s (L k))→Up s (CatL L l)
 | [],_,i,j,h=>by cases h;exact ⟨Nat.le_refl _,id⟩
 | k::l,hk,i,j,⟨m,h1,h2⟩=>by
  have a:=hk k (by simp) _ _ h1
  have b:=up_cat (l:=l) (fun q hq=>hk q (by simp [hq])) _ _ h2
  exact ⟨by omega,fun h=>b.2 (a.2 h)⟩
theorem up_times {P:PL} (hP:Up s P):∀ c,Up s (TimesL P c)
 | 0,i,j,h=>by cases h;exact ⟨Nat.le_refl _,id⟩
 | c + 1,i,j,⟨m,h1,h2⟩=>by
  have a:=hP _ _ h1
  have b:=up_times hP c _ _ h2
  exact ⟨by omega,fun h=>b.2 (a.2 h)⟩
theorem up_opt {P:PL} (hP:Up s P):∀ c,Up s (OptL P c)
 | 0,i,j,h=>by cases h;exact ⟨Nat.le_refl _,id⟩
 | c + 1,i,j,⟨m,h1,h2⟩=>by
  have a:i≤m∧(i≤s.length→m≤s.length):=by
   rcases h1 with rfl | h1
   ·exact ⟨Nat.le_refl _,id⟩
   ·exact hP _ _ h1
  have b:=up_opt hP c _ _ h2
  exact ⟨by omega,fun h=>b.2 (a.2 h)⟩
theorem up_rep {P:PL} (hP:Up s P) {z:Bool} {a b:Int}:Up s (RepL P z a b):=fun i j h=>by
 unfold RepL at h
 split at h
 ·split at h
  ·obtain ⟨c,h⟩:=h
   exact up_times hP c _ _ h
  ·obtain ⟨x,y,h1,h2,c,h3⟩:=h
   have a:=up_times hP _ _ _ h1
   have b:=hP _ _ h2
   have c:=up_times hP _ _ _ h3
   exact ⟨by omega,fun h=>c.2 (b.2 (a.2 h))⟩
 ·obtain ⟨x,h1,h2⟩:=h
  have a:=up_times hP _ _ _ h1
  have b:=up_opt hP _ _ _ h2
  exact ⟨by omega,fun h=>b.2 (a.2 h)⟩
theorem up_Ln:∀ (d:Nat) (n:Node),Up s (Ln s d n)
 | 0,_=>fun i j h=>by cases h;exact ⟨Nat.le_refl _,id⟩
 | d + 1,n=>fun i j h=>by
  unfold Ln at h
  split at h
  ·cases h;exact ⟨Nat.le_refl _,id⟩
  split at h
  ·obtain ⟨c,h1,_,rfl⟩:=h
   have:=(List.getElem?_eq_some_iff.1 h1).1
   exact ⟨by omega,fun _=>by omega⟩
  split at h
  ·obtain ⟨_,rfl⟩:=h;exact ⟨Nat.le_refl _,id⟩
  split at h
  ·obtain ⟨_,rfl⟩:=h;exact ⟨Nat.le_refl _,id⟩
  split at h
  ·exact up_cat (fun k _=>up_Ln d k) _ _ h
  split at h
  ·obtain ⟨k,_,h⟩:=h;exact up_Ln d k _ _ h
  ·split at h
   ·exact up_rep (up_Ln d _) _ _ h
   ·cases h;exact ⟨Nat.le_refl _,id⟩
theorem LN_up (n:Node):Up s (LN s n):=fun i j ⟨d,_,h⟩=>up_Ln d n i j h
end
def Prg (pb:Nat) (hp:List Blk) (n:Node):Prop:=∃ fl,Lies fl pb hp 772 n∧Norm 772 n∧n.lw≤257∧n.size≤200
def Ahead (hp hp':List Blk):Prop:=hp.length≤hp'.length∧∀ c,c < hp.length→getAt hp' c=getAt hp c
theorem Ahead.refl (hp:List Blk):Ahead hp hp:=⟨Nat.le_refl _,fun _ _=>rfl⟩
theorem Ahead.trans {a b c:List Blk} (h:Ahead a b) (g:Ahead b c):Ahead a c:=⟨Nat.le_trans h.1 g.1,fun k hk=>by rw [g.2 k (Nat.lt_of_lt_of_le hk h.1),h.2 k hk]⟩
theorem Prg.fr {pb:Nat} {hp hp':List Blk} {n:Node} (h:Prg pb hp n) (g:Ahead hp hp'):Prg pb hp' n:=by
 obtain ⟨fl,h1,h2⟩:=h
 exact ⟨fl,h1.fr (Nat.le_refl _) g.2,h2⟩
theorem Prg.norm {pb:Nat} {hp:List Blk} {n:Node} (h:Prg pb hp n):NormE n:=by
 obtain ⟨_,_,h,_⟩:=h;exact ⟨772,h⟩
theorem Lies.lt {fl pb d:Nat} {hp:List Blk} {n:Node} (h:Lies fl pb hp d n):pb < hp.length:=by
 obtain ⟨_,_,⟨_,b,_⟩,_⟩:=h;exact blk_lt b
theorem whole_prg {m:Int} {fl pb:Nat} {hp:List Blk} {n:Node} {s:List UInt8} (h:Prg pb hp n) (hs:s.length < 4611686018427387904):∃ b,evI (cfg m) fl 13 [.ptr pb 0, .str s] hp=some (.bool b,hp)∧(b=true↔LN s n 0 s.length):=by
 obtain ⟨f,h1,h2,h3',h4⟩:=h
 have h3:n.lw < 100000:=by omega
 refine ⟨_,whole_run h1 h2 h3 h4 hs, ?_⟩
 obtain ⟨w1,w2⟩:=progF_wf h3 (progF_len h2 h4)
 rw [prog_lang w1 w2,LN_eq h2]
 constructor
 ·rintro ⟨i,j,_,_,h,w⟩
  obtain ⟨rfl,rfl⟩:=h rfl
  exact w
 ·exact fun w=>⟨0,s.length,Nat.zero_le _,Nat.le_refl _,fun _=>⟨rfl,rfl⟩,w⟩
theorem find_prg {m:Int} {fl pb:Nat} {hp:List Blk} {n:Node} {s:List UInt8} (h:Prg pb hp n) (hs:s.length < 4611686018427387904):∃ b,evI (cfg m) fl 14 [.ptr pb 0, .str s] hp=some (.bool b,hp)∧(b=true↔∃ i j,i≤s.length∧LN s n i j):=by
 obtain ⟨f,h1,h2,h3',h4⟩:=h
 have h3:n.lw < 100000:=by omega
 refine ⟨_,find_run h1 h2 h3 h4 hs, ?_⟩
 obtain ⟨w1,w2⟩:=progF_wf h3 (progF_len h2 h4)
 rw [prog_lang w1 w2]
 constructor
 ·rintro ⟨i,j,h,g,_,w⟩
  exact ⟨i,j,by omega,by rw [LN_eq h2];exact w⟩
 ·rintro ⟨i,j,h,w⟩
  obtain ⟨a,b⟩:=LN_up n i j w
  exact ⟨i,j,a,b h,fun h=>by simp at h,by rw [← LN_eq h2];exact w⟩
def Made (m:Int) (fl:Nat) (hp:List Blk) (t:List UInt8) (n:Node):Prop:=∃ hp',evI (cfg m) fl 12 [.str t] hp=some (.tup [.ptr hp.length 0, .int .i64 (t.length:Int), .int .i64 0],hp')∧Prg hp.length hp' n∧cloH hp'.length hp'=true∧Ahead hp hp'∧hp.length < hp'.length
theorem of_parse {m:Int} {fl:Nat} {hp:List Blk} {t:List UInt8} {n:Node} (h0:parseM t=(n,t.length,0)) (hN:Norm 772 n) (hlw:n.lw≤257) (hz:n.size≤200) (hl:t.length≤256) (hc:cloH hp.length hp=true) (hf:fl≤hp.length):Made m fl hp t n:=by
 have hp1:=fun fl=>parse_ok (m:=m) (fl:=fl) (hp:=hp) (s:=t) (by omega) hc
 rw [h0] at hp1
 obtain ⟨ks,a1,a2⟩:=hp1 fl
 have all:∀ fl,evI (cfg m) fl 20 [.str t] hp=some (.tup [nAV n ks, .int .i64 (t.length:Int), .int .i64 0],hp):=fun fl'=>by
  exact evI_fl (.inl (by kernel_rfl)) a1
 obtain ⟨hp',e,l,hl',fr⟩:=comp_ok (m:=m) hf hN a2 (by omega) hz
 have e2:=of_ok all e
 obtain ⟨_,g2,_⟩:=evI_c (good m) e2 rfl hc
 exact ⟨hp',e2,⟨fl,l,hN,hlw,hz⟩,g2,⟨hl',fr⟩,l.lt⟩
theorem of_rd {m:Int} {fl:Nat} {hp:List Blk} {t:List UInt8} {n:Node} (h:rdA t=some (n,[])) (hz:n.size≤200) (hl:t.length≤256) (hc:cloH hp.length hp=true) (hf:fl≤hp.length):Made m fl hp t n:=by
 have h0:=(parse_L hl).1 n h hz
 rcases parse_tells t with ⟨n',h1,_,h3,h4,h5,_⟩ | ⟨q,e,h1,h2,_⟩
 ·rw [h0] at h1
  injection h1 with h1 _
  subst h1
  exact of_parse h0 h3 h4 hz hl hc hf
 ·rw [h0] at h1
  injection h1 with _ h1
  injection h1 with _ h1
  exact absurd h1.symm h2
theorem of_M {m:Int} {fl:Nat} {hp:List Blk} {t:List UInt8} {n:Node} (h0:parseM t=(n,t.length,0)) (hc:cloH hp.length hp=true) (hf:fl≤hp.length):Made m fl hp t n:=by
 rcases parse_tells t with ⟨n',h1,h2,h3,h4,h5,_⟩ | ⟨q,e,h1,h2,_⟩
 ·rw [h0] at h1
  injection h1 with h1 _
  subst h1
  exact of_parse h0 h3 h4 h5 h2 hc hf
 ·rw [h0] at h1
  injection h1 with _ h1
  injection h1 with _ h1
  exact absurd h1.symm h2
theorem of_none {m:Int} {fl:Nat} {hp:List Blk} {t:List UInt8} {n:Node} {q:Nat} {e:Int} (h0:parseM t=(n,q,e)) (he:e≠0) (ht:t.length≤9223372036854775807) (hc:cloH hp.length hp=true):evI (cfg m) fl 12 [.str t] hp=some (.tup [.nilP, .int .i64 (q:Int), .int .i64 e],hp):=by
 obtain ⟨ks,a1,_⟩:=parse_ok (m:=m) (fl:=fl) (hp:=hp) (s:=t) ht hc
 rw [h0] at a1
 exact of_no (n:=n) (ks:=ks) (fun fl'=>evI_fl (.inl (by kernel_rfl)) a1) he
theorem of_any {m:Int} {fl:Nat} {hp:List Blk} (t:List UInt8) (ht:t.length≤9223372036854775807) (hc:cloH hp.length hp=true) (hf:fl≤hp.length) :
  (∃ n,rdA t=some (n,[])∧n.size≤200∧Made m fl hp t n)∨(∃ (q:Nat) (e:Int),e≠0∧evI (cfg m) fl 12 [.str t] hp=some (.tup [.nilP, .int .i64 (q:Int), .int .i64 e],hp)):=by
 rcases parse_tells t with ⟨n,h1,h2,h3,h4,h5,h6⟩ | ⟨q,e,h1,h2,_⟩
 ·exact .inl ⟨n,h6,h5,of_M h1 hc hf⟩
 ·exact .inr ⟨q,e,h2,of_none h1 h2 ht hc⟩
theorem of_big {m:Int} {fl:Nat} {hp:List Blk} {t:List UInt8} {n:Node} (h:rdA t=some (n,[])) (hz:200 < n.size) (hl:t.length≤256) (hc:cloH hp.length hp=true):evI (cfg m) fl 12 [.str t] hp=some (.tup [.nilP, .int .i64 (t.length:Int), .int .i64 4],hp):=of_none ((parse_L hl).2.1 n h hz) (by decide) (by omega) hc
theorem psize {m:Int} {fl pb sb k first:Nat} {hp:List Blk} {q:Node} {ks:AV} (hb:blkCells hp pb=some ((pxOf q ks first).B sb k)) (hz:∀ fl h,evI (cfg m) fl 22 [nAV q ks] h=some (.int .i64 q.size,h)):evI (cfg m) fl 17 [.ptr pb 0] hp=some (.int .i64 q.size,hp):=by
 exact evX (AI q.size) (hp) [.m 1 3 (load_ok (C:=cfg m) (t:=43) (off:=1) (x:=AV.agg [AI q.kind,AW q.set.a.toNat,AW q.set.b.toNat,AW q.set.c.toNat,AW q.set.d.toNat,AI q.mn,AI q.mx,ks]) hb (by kernel_rfl)), .c 1 4 (hz (hp.length) (hp))] (by kernel_rfl) (tlP (by kernel_rfl) rfl (shutT (v:=AI q.size) (v':=AI q.size) (by kernel_rfl))) rfl
theorem ptext {m:Int} {fl pb sb k first:Nat} {hp:List Blk} {q:Node} {ks:AV} (hb:blkCells hp pb=some ((pxOf q ks first).B sb k)) (hz:∀ fl h,evI (cfg m) fl 26 [nAV q ks] h=some (.str q.put,h)):evI (cfg m) fl 19 [.ptr pb 0] hp=some (.str q.put,hp):=by
 exact evX (AV.str q.put) (hp) [.m 1 3 (load_ok (C:=cfg m) (t:=43) (off:=1) (x:=AV.agg [AI q.kind,AW q.set.a.toNat,AW q.set.b.toNat,AW q.set.c.toNat,AW q.set.d.toNat,AI q.mn,AI q.mx,ks]) hb (by kernel_rfl)), .c 1 4 (hz (hp.length) (hp))] (by kernel_rfl) (tlP (by kernel_rfl) rfl (shutT (v:=AV.str q.put) (v':=AV.str q.put) (by kernel_rfl))) rfl
theorem size_prg {m:Int} {fl pb:Nat} {hp:List Blk} {n:Node} (h:Prg pb hp n):evI (cfg m) fl 17 [.ptr pb 0] hp=some (.int .i64 n.size,hp):=by
 obtain ⟨f,⟨ks,sb,⟨rows,b,_⟩,k⟩,h2,h3,h4⟩:=h
 exact psize b fun fl h=>size_ok _ h2.dep k (by omega)
theorem text_prg {m:Int} {fl pb:Nat} {hp:List Blk} {n:Node} (h:Prg pb hp n):evI (cfg m) fl 19 [.ptr pb 0] hp=some (.str n.put,hp):=by
 obtain ⟨f,⟨ks,sb,⟨rows,b,_⟩,k⟩,h2,h3,h4⟩:=h
 exact ptext b fun fl h=>E.SZ.put_ok _ h2.fine k (by omega) (by omega)
end Go.Proofs.YtanopbolgfcojaaGreatDoor.E.SZ.N
namespace Go.Proofs.YtanopbolgfcojaaGreatDoor.E.SZ
open Go Go.Proofs E E.R
abbrev q0_r9:List AV:=[AI 9,AW 0,AW 0,AW 0,AW 0,AI 0,AI 0,AV.nilS]
theorem r9 {m:Int} {fl:Nat} {hp:List Blk}:evI (cfg m) fl 23 [AV.agg [.int .i64 9, .int .u64 0, .int .u64 0, .int .u64 0, .int .u64 0, .int .i64 0, .int .i64 0, .nilS]] hp=some (.bool false,hp):=by
 have zz0:=load_ok (C:=cfg m) (t:=3) (b:=hp.length) (off:=0) (hp:=hp++[BC q0_r9]) (cs:=q0_r9) (x:=AI 9) blk_last (by kernel_rfl)
 exact evX (AV.bool false) (hp++[BC q0_r9]) [.m 2 1 (load_ok (C:=cfg m) (t:=41) (b:=hp.length) (off:=7) (hp:=hp++[BC q0_r9]) (cs:=q0_r9) (x:=AV.nilS) blk_last (by kernel_rfl)), .c 2 2 (evI_of (C:=cfg m) (k:=3000) (fl:=hp.length) (f:=33) (a:=[AV.nilS,AV.fn (Fn.func 34) [] []]) (h:=hp++[BC q0_r9]) (r:=(AV.bool false,hp++[BC q0_r9])) (by kernel_rfl)), .m 2 5 zz0, .m 2 8 (load_ok (C:=cfg m) (t:=40) (b:=hp.length) (off:=1) (hp:=hp++[BC q0_r9]) (cs:=q0_r9) (x:=AV.agg [AW 0,AW 0,AW 0,AW 0]) blk_last (by kernel_rfl)), .m 4 1 (load_ok (C:=cfg m) (t:=3) (b:=hp.length) (off:=5) (hp:=hp++[BC q0_r9]) (cs:=q0_r9) (x:=AI 0) blk_last (by kernel_rfl)), .m 4 5 (load_ok (C:=cfg m) (t:=3) (b:=hp.length) (off:=6) (hp:=hp++[BC q0_r9]) (cs:=q0_r9) (x:=AI 0) blk_last (by kernel_rfl)), .m 5 1 zz0] (by kernel_rfl) (tlP (by kernel_rfl) rfl (shutT (v:=AV.bool false) (v':=AV.bool false) (by kernel_rfl))) rfl
theorem cp9 {m:Int} {fl:Nat} {hp:List Blk}:evI (cfg m) fl 18 [AV.agg [.int .i64 9, .int .u64 0, .int .u64 0, .int .u64 0, .int .u64 0, .int .i64 0, .int .i64 0, .nilS]] hp=some (.tup [.nilP, .int .i64 1],hp):=by
 exact evX (AV.tup [AV.nilP,AI 1]) (hp) [.c 1 1 (r9 (m:=m) (fl:=fl) (hp:=hp))] (by kernel_rfl) (tlK (by kernel_rfl) rfl) rfl
theorem hx_ok {m:Int} {g1:List Blk} (of1:evI (cfg m) 0 12 [.str [97,40,98,124,99,41,42,100]] []=some (.tup [.ptr 0 0, .int .i64 8, .int .i64 0],g1)) (of2:evI (cfg m) 0 12 [.str [97,41]] g1=some (.tup [.nilP, .int .i64 1, .int .i64 2],g1)) (w1:evI (cfg m) 0 13 [.ptr 0 0, .str [97,98,99,99,98,100]] g1=some (.bool true,g1)) (w2:evI (cfg m) 0 13 [.ptr 0 0, .str [97,98,99,99,98]] g1=some (.bool false,g1)) (w3:evI (cfg m) 0 14 [.ptr 0 0, .str [120,120,97,100,121,121]] g1=some (.bool true,g1)) (w4:evI (cfg m) 0 14 [.ptr 0 0, .str [97,98,99]] g1=some (.bool false,g1)) (w5:evI (cfg m) 0 17 [.ptr 0 0] g1=some (.int .i64 6,g1)) (w6:evI (cfg m) 0 19 [.ptr 0 0] g1=some (.str [97,40,98,124,99,41,42,100],g1)):evI (cfg m) 0 9 [] []=some (.bool true,[]):=by
 exact evX (AV.bool true) (g1) [.c 1 0 of1, .c 2 0 of2, .c 3 1 (cp9 (m:=m) (fl:=0) (hp:=g1)), .c 6 20 w1, .c 6 24 w2, .c 6 29 w3, .c 6 33 w4, .c 6 38 w5, .c 6 43 w6] (by kernel_rfl) (tlP (by kernel_rfl) rfl (shutT (v:=AV.bool true) (v':=AV.bool true) (by kernel_rfl))) rfl
end Go.Proofs.YtanopbolgfcojaaGreatDoor.E.SZ
namespace Go.Proofs.YtanopbolgfcojaaGreatDoor.E.SZ
open Go Go.Proofs E E.R E.SZ.N
def mS (st:List NS) (first:Nat) (w:Bool) (len:Nat):List UInt8→Nat→List Bool × List Nat→Bool
 | [],pl,p=>if (atF st pl len (st.length + 1) 0 (mPut first w pl p.1 p.2).1 (mPut first w pl p.1 p.2).2 false).2.2=true∧(w=false∨pl=len) then true else false
 | c::cs,pl,p=>if (atF st pl len (st.length + 1) 0 (mPut first w pl p.1 p.2).1 (mPut first w pl p.1 p.2).2 false).2.2=true∧(w=false∨pl=len) then true
  else mS st first w len cs (pl + 1) (stepF st c (atF st pl len (st.length + 1) 0 (mPut first w pl p.1 p.2).1 (mPut first w pl p.1 p.2).2 false).2.1 (List.replicate st.length false) [])
theorem mS_eq {st:List NS} {first:Nat} {w:Bool} {len:Nat}:∀ (cs:List UInt8) (pl:Nat) (ms:List Bool) (l:List Nat),mF st first w len cs pl ms l=mS st first w len cs pl (ms,l)
 | [],pl,ms,l=>by rw [mF,mG];rfl
 | c::cs,pl,ms,l=>by
  rw [mF,mG,mS]
  dsimp only
  split
  ·rfl
  ·exact mS_eq cs _ _ _
def matchS (st:List NS) (first:Nat) (w:Bool) (s:List UInt8):Bool:=mS st first w s.length s 0 (List.replicate st.length false,[])
theorem matchS_eq {st:List NS} {first:Nat} {w:Bool} {s:List UInt8}:matchF st first w s=matchS st first w s:=mS_eq _ _ _ _
abbrev exT:List UInt8:=[97,40,98,124,99,41,42,100]
theorem ex_p:(parseM exT).2=(8,0):=by kernel_rfl
theorem ex_q:(parseM [97,41]).2=(1,2):=by kernel_rfl
theorem ex_sz:(parseM exT).1.size=6:=by kernel_rfl
theorem ex_put:(parseM exT).1.put=exT:=by kernel_rfl
theorem ex_w1:matchF (progF 772 (parseM exT).1).2 (progF 772 (parseM exT).1).1 true [97,98,99,99,98,100]=true:=by rw [matchS_eq];kernel_rfl
theorem ex_w2:matchF (progF 772 (parseM exT).1).2 (progF 772 (parseM exT).1).1 true [97,98,99,99,98]=false:=by rw [matchS_eq];kernel_rfl
theorem ex_w3:matchF (progF 772 (parseM exT).1).2 (progF 772 (parseM exT).1).1 false [120,120,97,100,121,121]=true:=by rw [matchS_eq];kernel_rfl
theorem ex_w4:matchF (progF 772 (parseM exT).1).2 (progF 772 (parseM exT).1).1 false [97,98,99]=false:=by rw [matchS_eq];kernel_rfl
theorem ex0 {m:Int}:evI (cfg m) 0 9 [] []=some (.bool true,[]):=by
 obtain ⟨g1,of1,p1,c1,_⟩:=of_M (m:=m) (fl:=0) (hp:=[]) (t:=exT) (n:=(parseM exT).1) (Prod.ext rfl ex_p) rfl (Nat.zero_le _)
 have of2:=of_none (m:=m) (fl:=0) (hp:=g1) (t:=[97,41]) (n:=(parseM [97,41]).1) (q:=1) (e:=2) (Prod.ext rfl ex_q) (by decide) (by decide) c1
 have sz:=size_prg (m:=m) (fl:=0) p1
 have tx:=text_prg (m:=m) (fl:=0) p1
 rw [ex_sz] at sz
 rw [ex_put] at tx
 obtain ⟨f,l,h2,h3,h4⟩:=p1
 have h3:(parseM exT).1.lw < 100000:=by omega
 have w1:=whole_run (m:=m) (fl:=0) (s:=[97,98,99,99,98,100]) l h2 h3 h4 (by decide)
 have w2:=whole_run (m:=m) (fl:=0) (s:=[97,98,99,99,98]) l h2 h3 h4 (by decide)
 have w3:=find_run (m:=m) (fl:=0) (s:=[120,120,97,100,121,121]) l h2 h3 h4 (by decide)
 have w4:=find_run (m:=m) (fl:=0) (s:=[97,98,99]) l h2 h3 h4 (by decide)
 rw [ex_w1] at w1
 rw [ex_w2] at w2
 rw [ex_w3] at w3
 rw [ex_w4] at w4
 exact hx_ok of1 of2 w1 w2 w3 w4 sz tx
end Go.Proofs.YtanopbolgfcojaaGreatDoor.E.SZ
namespace Go.Proofs.YtanopbolgfcojaaGreatDoor.E.SZ.N
open Go Go.Proofs E E.R
section
variable {s:List UInt8}
def At (s a:List UInt8) (i:Nat):Prop:=(s.drop i).take a.length=a
instance decAt (s a:List UInt8) (i:Nat):Decidable (At s a i):=inferInstanceAs (Decidable ((s.drop i).take a.length=a))
end
end Go.Proofs.YtanopbolgfcojaaGreatDoor.E.SZ.N
namespace Go.Proofs.YtanopbolgfcojaaGreatDoor.E.SZ
open Go
theorem rngU8 {a:Int} (h:(Lit.int .u8 a).wf=true):0≤a∧a≤255:=by
 simp [Lit.wf,IntKind.min,IntKind.max,IntKind.signed,IntKind.bits] at h
 omega
end Go.Proofs.YtanopbolgfcojaaGreatDoor.E.SZ
namespace Go.Proofs.YtanopbolgfcojaaGreatDoor.E.SZ
open Go Go.Proofs E E.R
theorem u8_ofI {a:Int} (h:0≤a∧a≤255):∃ k:UInt8,((k.toNat:Nat):Int)=a:=by
 refine ⟨UInt8.ofNat a.toNat, ?_⟩
 rw [UInt8.toNat_ofNat_of_lt' (by show a.toNat < 256;omega)]
 omega
theorem bytes_of {x:AV} {m:Int} (h:Sh (cfg m) 6 22 x):∃ bs:List UInt8,IsSl 1 x (bsV bs):=by
 have e1:(cfg m).ty 22=some ⟨.slice 5,1,24,[.nilS],false⟩:=by kernel_rfl
 have e2:(cfg m).ty 5=some ⟨.int .u8,1,1,[.int .u8 0],true⟩:=by kernel_rfl
 unfold Sh at h
 rw [e1] at h
 rcases h with rfl | ⟨xs,rfl,hlen,hx⟩
 ·exact ⟨[], .nil _⟩
 ·have:∃ bs:List UInt8,xs=bsV bs:=by
   clear e1 hlen
   induction xs with
   | nil=>exact ⟨[],rfl⟩
   | cons y ys ih =>
    obtain ⟨bs,hb⟩:=ih fun z hz=>hx z (by simp [hz])
    have hy:=hx y (by simp)
    unfold Sh at hy
    rw [e2] at hy
    obtain ⟨n,rfl,hw⟩:=hy
    obtain ⟨k,hk⟩:=u8_ofI (rngU8 hw)
    exact ⟨k::bs,by simp [bsV,hb,hk]⟩
  obtain ⟨bs,rfl⟩:=this
  have hs:sizeT (cfg m) 5=1:=by unfold sizeT;rw [e2]
  rw [hs]
  exact ⟨bs, .lit _ _ _⟩
theorem app_u8 {C:Cfg} {fl:Nat} {hp:List Blk} {x y:AV} {vs ws:List AV} {t:TypeId} (h:Gr fl 1 hp x vs) (hy:elems hp 1 y=some ws) (ht:elT C t 1 1=true) (hw:ws≠[]) (hl:(vs.length + ws.length) * 1≤35184372088832) (hf:fl≤hp.length) :
  ∃ x' hp',(∀ ts,builtinE C fl false ⟨ts,hp⟩ .append [t,t] [x,y]=some ⟨.v x',ts,hp',bif isArr y then .hw else .fw⟩)∧Gr fl 1 hp' x' (vs++ws)∧FrC [] hp hp':=append_gr h hy ht hw hl hf
abbrev leSt (l o:AV) (i:Nat):List TV:=[.v l,J,J, .v o, .v (AI i)]++List.replicate 21 J
abbrev leEnd (o:AV):List TV:=[J,J,J, .v o]++List.replicate 22 J
end Go.Proofs.YtanopbolgfcojaaGreatDoor.E.SZ
namespace Go.Proofs.YtanopbolgfcojaaGreatDoor.E.SZ.N
open Go Go.Proofs E E.R
section
variable {s:List UInt8}
end
section
variable {s:List UInt8}
theorem of_expr {m:Int} {fl:Nat} {hp:List Blk} {t:List UInt8} {n:Node} (h:rdA t=some (n,[])) (hl:t.length≤256) (hc:cloH hp.length hp=true) (hf:fl≤hp.length) :
  (n.size≤200∧Made m fl hp t n)∨evI (cfg m) fl 12 [.str t] hp=some (.tup [.nilP, .int .i64 (t.length:Int), .int .i64 4],hp):=by
 by_cases hz:n.size≤200
 ·exact .inl ⟨hz,of_rd h hz hl hc hf⟩
 ·exact .inr (of_big h (by omega) hl hc)
theorem LN_two {a b:Node} (ha:NormE a) (hb:NormE b) {i j:Nat}:LN s (catF [a,b]) i j↔∃ k,LN s a i k∧LN s b k j:=by
 rw [LN_catF (fun n hn=>by
  rcases List.mem_cons.1 hn with rfl | hn
  ·exact ha
  ·rw [List.mem_singleton.1 hn];exact hb)]
 simp only [CatL]
 constructor
 ·rintro ⟨k,h1,r,h3,rfl⟩;exact ⟨k,h1,h3⟩
 ·rintro ⟨k,h1,h3⟩;exact ⟨k,h1,j,h3,rfl⟩
theorem LN_or {a b:Node} (ha:NormE a) (hb:NormE b) {i j:Nat}:LN s (endF [a,b]) i j↔LN s a i j∨LN s b i j:=by
 rw [LN_endF (by simp) (fun n hn=>by
  rcases List.mem_cons.1 hn with rfl | hn
  ·exact ha
  ·rw [List.mem_singleton.1 hn];exact hb)]
 simp
end
end Go.Proofs.YtanopbolgfcojaaGreatDoor.E.SZ.N
namespace Go.Proofs.YtanopbolgfcojaaGreatDoor.E.SZ
open Go Go.Proofs E E.R
abbrev fewS:List UInt8:=[97,98,99,100,10]
theorem fe_i {m:Int} {fl i j:Nat} {hp:List Blk} {l o:AV} {bs s:List UInt8} {c:UInt8} (hl:IsSl 1 l (bsV bs)) (hc:(bsV bs)[i]?=some (.int .u8 (c.toNat:Int))) (hi:i < bs.length) (hi2:i < 24) (ho:Gr fl 1 hp o (bsV s)) (hlen:((bsV s).length + [AV.int .u8 ((gb fewS j).toNat:Int)].length) * 1≤35184372088832) (hf:fl≤hp.length) (hj:Int.tmod (c.toNat:Int) 5=(j:Int)) (hj2:j < 5):∃ hp' o',LoopS (cfg m) fl 11 (bodyAt (cfg m) 11 3) 3 ⟨leSt l o i,hp⟩ ⟨leSt l o' (i + 1),hp'⟩∧Gr fl 1 hp' o' (bsV s++[AV.int .u8 ((gb fewS j).toNat:Int)])∧FrC [] hp hp':=by
 obtain ⟨x'1,hp'2,e3,h4,h5⟩:=(app_u8 (C:=cfg m) (y:=AV.lit 1 Own.exact [AU (↑(gb [97,98,99,100,10] j).toNat:Int)]) (t:=22) ho (by kernel_rfl) (by kernel_rfl) (by simp_all;done) hlen hf)
 exact ⟨hp'2,_,loopStepS (St.mk [TV.v l,J,J,TV.v x'1,TV.v (AI ((↑i:Int) + 1)),J,J,J,J,J,J,J,J,J,J,J,J,J,J,J,J,J,J,J,J,J] hp'2) [.m 3 2 (len_sl (C:=cfg m) (t:=22) (ts':=[]) (fl:=fl) (ar:=false) (hp:=hp) hl (by kernel_rfl)), .b 3 3 (decide_eq_true ((show (↑i:Int) < (↑(bsV bs).length:Int) from (by have:=UInt8.toNat_lt (c);have:=UInt8.toNat_lt (gb fewS j);simp only [setAt_length,List.length_append,List.length_cons,List.length_nil,List.length_map] at *;omega)))), .b 3 6 (decide_eq_true ((show (↑i:Int) < 24 from (by omega)))), .a 5 3 (indexAddr_sl (C:=cfg m) (t:=22) (n:=(↑i:Int)) hl (by kernel_rfl) (by omega) hc), .w 5 5 IntKind.u8 ((↑j:Int)) hj, .v 5 6 (index_gb (C:=cfg m) (t:=9) (s:=[97,98,99,100,10]) (n:=(↑j:Int)) (by kernel_rfl) (by omega) (by have:=UInt8.toNat_lt (c);have:=UInt8.toNat_lt (gb fewS j);simp only [setAt_length,List.length_append,List.length_cons,List.length_nil,List.length_map] at *;omega)), .m 5 8 e3, .w 4 1 IntKind.i64 ((↑i:Int) + 1) (wrap_i64' (by omega))] (by kernel_rfl) rfl,by assumption,by assumption⟩
theorem fe_x {m:Int} {fl i:Nat} {hp:List Blk} {l o:AV} {bs:List UInt8} (hl:IsSl 1 l (bsV bs)) (hi:bs.length≤i∨24≤i) (hi2:i≤24):LoopI (cfg m) fl 11 (bodyAt (cfg m) 11 3) 3 ⟨leSt l o i,hp⟩ (.exit 0) ⟨leEnd o,hp⟩:=by
 by_cases h1:(↑i:Int) < (↑(bsV bs).length:Int)
 ·exact loopEndC (.exit 0) (St.mk ([J,J,J,TV.v o]++Jn 22) hp) [.m 3 2 (len_sl (C:=cfg m) (t:=22) (ts':=[]) (fl:=fl) (ar:=false) (hp:=hp) hl (by kernel_rfl)), .b 3 3 (decide_eq_true h1), .b 3 6 (decide_eq_false ((show ¬(↑i:Int) < 24 from (by simp only [setAt_length,List.length_append,List.length_cons,List.length_nil,List.length_map] at *;omega))))] (by kernel_rfl) (fun h=>by cases h) rfl
 ·exact loopEndC (.exit 0) (St.mk ([J,J,J,TV.v o]++Jn 22) hp) [.m 3 2 (len_sl (C:=cfg m) (t:=22) (ts':=[]) (fl:=fl) (ar:=false) (hp:=hp) hl (by kernel_rfl)), .b 3 3 (decide_eq_false h1)] (by kernel_rfl) (fun h=>by cases h) rfl
theorem fe_ok {m:Int} {fl:Nat} {hp hp':List Blk} {l o:AV} {s:List UInt8} (hlp:LoopI (cfg m) hp.length 11 (bodyAt (cfg m) 11 3) 3 ⟨leSt l .nilS 0,hp⟩ (.exit 0) ⟨leEnd o,hp'⟩) (ho:Gr hp.length 1 hp' o (bsV s)):evI (cfg m) fl 11 [l] hp=some (.str s,hp):=by
 exact evX (AV.str s) (hp') [.l 3 hlp, .m 6 1 (conv_bytes (C:=cfg m) (hp:=hp') (o:=o) (s:=s) (src:=22) (dst:=9) (ar:=false) (Gr.isSl ho) (by kernel_rfl))] (by kernel_rfl) (tlP (by kernel_rfl) rfl (shutT (v:=AV.str s) (v':=AV.str s) (by kernel_rfl))) rfl
def feC (c:UInt8):UInt8:=gb fewS (c.toNat % 5)
def feT (bs:List UInt8):List UInt8:=(bs.take 24).map feC
theorem feT_len (bs:List UInt8):(feT bs).length≤24:=by unfold feT;rw [List.length_map,List.length_take];omega
theorem fe_loop {m:Int} {fl:Nat} {l:AV} {bs:List UInt8} (hl:IsSl 1 l (bsV bs)):∀ (r:List UInt8) (i:Nat) (s:List UInt8) (o:AV) (hp:List Blk),(bs.take 24).drop i=r→i≤24→s.length + r.length≤24→fl≤hp.length→Gr fl 1 hp o (bsV s)→∃ hp' o',LoopI (cfg m) fl 11 (bodyAt (cfg m) 11 3) 3 ⟨leSt l o i,hp⟩ (.exit 0) ⟨leEnd o',hp'⟩∧Gr fl 1 hp' o' (bsV (s++r.map feC))
 | [],i,s,o,hp,hd,hi,hs,hf,ho=>by
  have h1:(bs.take 24).length≤i:=by simpa using hd
  rw [List.length_take] at h1
  rw [List.map_nil,List.append_nil]
  exact ⟨hp,o,fe_x hl (by omega) hi,ho⟩
 | c::r,i,s,o,hp,hd,hi,hs,hf,ho=>by
  have hq:(bs.take 24)[i]?=some c:=by have:=congrArg (·[0]?) hd;simpa using this
  have hlt:=(List.getElem?_eq_some_iff.1 hq).1
  rw [List.length_take] at hlt
  have hq2:bs[i]?=some c:=by rw [List.getElem?_take_of_lt (by omega)] at hq;exact hq
  have hd':(bs.take 24).drop (i + 1)=r:=by rw [← List.drop_drop,hd];rfl
  have hc:(bsV bs)[i]?=some (.int .u8 (c.toNat:Int)):=by rw [List.getElem?_map,hq2];rfl
  simp only [List.length_cons] at hs
  have e:∀ d,bsV s++[AV.int .u8 ((d:UInt8).toNat:Int)]=bsV (s++[d]):=fun d=>by simp [bsV]
  have key:∃ hp1 o1,LoopS (cfg m) fl 11 (bodyAt (cfg m) 11 3) 3 ⟨leSt l o i,hp⟩ ⟨leSt l o1 (i + 1),hp1⟩∧Gr fl 1 hp1 o1 (bsV (s++[feC c]))∧FrC [] hp hp1:=by
   rw [← e]
   exact fe_i (j:=c.toNat % 5) hl hc (by omega) (by omega) ho (by simp [bsV];omega) hf rfl (Nat.mod_lt _ (by omega))
  obtain ⟨hp1,o1,k1,k2,k3⟩:=key
  obtain ⟨hp',o',g1,g2⟩:=fe_loop (m:=m) hl r (i + 1) (s++[feC c]) o1 hp1 hd' (by omega) (by simp;omega) (Nat.le_trans hf k3.1) k2
  exact ⟨hp',o',k1 _ _ g1,by rw [List.map_cons,show s++feC c::r.map feC=s++[feC c]++r.map feC by simp];exact g2⟩
theorem few_ok {m:Int} {fl:Nat} {hp:List Blk} {l:AV} {bs:List UInt8} (hl:IsSl 1 l (bsV bs)):evI (cfg m) fl 11 [l] hp=some (.str (feT bs),hp):=by
 obtain ⟨hp',o',g1,g2⟩:=fe_loop (m:=m) (fl:=hp.length) hl (bs.take 24) 0 [] .nilS hp rfl (by omega) (by rw [List.length_take];simp;omega) (Nat.le_refl _) (Gr.nil _ _ _)
 exact fe_ok g1 g2
end Go.Proofs.YtanopbolgfcojaaGreatDoor.E.SZ
