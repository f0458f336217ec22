/- Steps of the seat's proofs: an evaluator of the program's code, its soundness, and what the functions come to. -/
import Derived.Test.YtbbndbckopljfaaGreatDoorEaf
set_option linter.unusedSimpArgs false
set_option linter.unusedVariables false
namespace Go.Proofs.YtbbndbckopljfaaGreatDoor.E.SW
open Go Go.Proofs E E.R E.L
abbrev qsSt (x:Int) (l:AV) (pb:List AV) (L Y:Int) (c:Bool) (li by':Int) (i:Nat):List TV:=[J, .v (.int .i64 x), .v l,J,J,J,J, .v (.bool true), .bx pb, .bx [.int .i64 L, .int .i64 Y, .bool c], .v (.int .i64 li), .v (.int .i64 by'), .v (.bool c), .v (AI i)]++List.replicate 107 J
theorem qs_f {m:Int} {fl i:Nat} {hp:List Blk} {l y z lt:AV} {ts0 q k x:Int} {l0:Bs} {w:Bool} {ls pb:List AV} {L Y ts li bt:Int} {ln:Bs} (hl:IsSl 7 l ls) (hi:i < ls.length) (hi2:i < 20) (hv:ls[i]?=some (itA [.int .i64 ts0,y, .str l0] w q lt k)) (hit:∀ fl hp,evI (cfg m) fl 14 [itA [.int .i64 ts0,y, .str l0] w q lt k] hp=some (entA ts z ln,hp)) (ha:1≤L) (ha2:L≤9223372036854775807) (hb:(ln.length:Int)≤Y) (hb2:Y≤9223372036854775807) (hli:0≤li) (hli2:li≤100) (hbt:0≤bt) (hbt2:bt + Y≤9223372036854775807):LoopS (cfg m) fl 5 (bodyAt (cfg m) 5 11) 11 ⟨qsSt x l pb L Y false li bt i,hp⟩ ⟨qsSt x l pb (L - 1) (Y - ln.length) false (li + 1) (bt + ln.length) (i + 1),hp⟩:=by
 exact loopStepS (St.mk [J,TV.v (AI x),TV.v l,J,J,J,J,TV.v (AV.bool true),TV.bx pb,TV.bx [AI (L - 1),AI (Y - (↑(List.length ln):Int)),AV.bool false],TV.v (AI (li + 1)),TV.v (AI (bt + (↑(List.length ln):Int))),TV.v (AV.bool false),TV.v (AI ((↑i:Int) + 1)),J,J,J,J,J,J,J,J,J,J,J,J,J,J,J,J,J,J,J,J,J,J,J,J,J,J,J,J,J,J,J,J,J,J,J,J,J,J,J,J,J,J,J,J,J,J,J,J,J,J,J,J,J,J,J,J,J,J,J,J,J,J,J,J,J,J,J,J,J,J,J,J,J,J,J,J,J,J,J,J,J,J,J,J,J,J,J,J,J,J,J,J,J,J,J,J,J,J,J,J,J,J,J,J,J,J,J] hp) [.m 11 2 (len_sl (C:=cfg m) (t:=49) (ts':=[]) (fl:=fl) (ar:=false) (hp:=hp) hl (by kernel_rfl)), .b 11 3 (decide_eq_true ((show (↑i:Int) < (↑ls.length:Int) from (by omega)))), .b 11 6 (decide_eq_true ((show (↑i:Int) < 20 from (by omega)))), .a 13 2 (indexAddr_sl (C:=cfg m) (t:=49) (n:=(↑i:Int)) hl (by kernel_rfl) (by omega) hv), .c 13 4 (hit (fl) (hp)), .c 14 2 (tk_o (m:=m) (fl:=fl) (hp:=hp) (ts:=ts) (a:=L) (b:=Y) (ls:=z) ha ha2 hb hb2), .w 18 1 IntKind.i64 (li + 1) (wrap_i64' (by omega)), .c 19 2 (evI_of (C:=cfg m) (k:=3000) (fl:=fl) (f:=16) (a:=[AV.agg [AI ts,z,AV.str ln]]) (h:=hp) (r:=(AI (↑(List.length ln):Int),hp)) (by kernel_rfl)), .w 19 3 IntKind.i64 (bt + (↑(List.length ln):Int)) (wrap_i64' (by omega)), .w 12 1 IntKind.i64 ((↑i:Int) + 1) (wrap_i64' (by omega))] (by kernel_rfl) rfl
theorem qs_n1 {m:Int} {fl i:Nat} {hp:List Blk} {l y z lt:AV} {ts0 q k x:Int} {l0:Bs} {w:Bool} {ls pb:List AV} {L Y ts li bt:Int} {ln:Bs} (hl:IsSl 7 l ls) (hi:i < ls.length) (hi2:i < 20) (hv:ls[i]?=some (itA [.int .i64 ts0,y, .str l0] w q lt k)) (hit:∀ fl hp,evI (cfg m) fl 14 [itA [.int .i64 ts0,y, .str l0] w q lt k] hp=some (entA ts z ln,hp)) (hn:L < 1∨Y < (ln.length:Int)):LoopS (cfg m) fl 5 (bodyAt (cfg m) 5 11) 11 ⟨qsSt x l pb L Y false li bt i,hp⟩ ⟨qsSt x l pb L Y true li bt (i + 1),hp⟩:=by
 exact loopStepS (St.mk [J,TV.v (AI x),TV.v l,J,J,J,J,TV.v (AV.bool true),TV.bx pb,TV.bx [AI L,AI Y,AV.bool true],TV.v (AI li),TV.v (AI bt),TV.v (AV.bool true),TV.v (AI ((↑i:Int) + 1)),J,J,J,J,J,J,J,J,J,J,J,J,J,J,J,J,J,J,J,J,J,J,J,J,J,J,J,J,J,J,J,J,J,J,J,J,J,J,J,J,J,J,J,J,J,J,J,J,J,J,J,J,J,J,J,J,J,J,J,J,J,J,J,J,J,J,J,J,J,J,J,J,J,J,J,J,J,J,J,J,J,J,J,J,J,J,J,J,J,J,J,J,J,J,J,J,J,J,J,J,J,J,J,J,J,J,J] hp) [.m 11 2 (len_sl (C:=cfg m) (t:=49) (ts':=[]) (fl:=fl) (ar:=false) (hp:=hp) hl (by kernel_rfl)), .b 11 3 (decide_eq_true ((show (↑i:Int) < (↑ls.length:Int) from (by omega)))), .b 11 6 (decide_eq_true ((show (↑i:Int) < 20 from (by omega)))), .a 13 2 (indexAddr_sl (C:=cfg m) (t:=49) (n:=(↑i:Int)) hl (by kernel_rfl) (by omega) hv), .c 13 4 (hit (fl) (hp)), .c 14 2 (tk_c (m:=m) (fl:=fl) (hp:=hp) (ts:=ts) (a:=L) (b:=Y) (ls:=z) (ln:=ln) (c:=false) (by omega)), .b 15 12 (bne_eq_false_iff_eq.2 ((show L=L from rfl))), .b 15 18 (bne_eq_false_iff_eq.2 ((show Y=Y from rfl))), .w 12 1 IntKind.i64 ((↑i:Int) + 1) (wrap_i64' (by omega))] (by kernel_rfl) rfl
theorem qs_n0 {m:Int} {fl i:Nat} {hp:List Blk} {l y z lt:AV} {ts0 q k x:Int} {l0:Bs} {w:Bool} {ls pb:List AV} {L Y ts li bt:Int} {ln:Bs} (hl:IsSl 7 l ls) (hi:i < ls.length) (hi2:i < 20) (hv:ls[i]?=some (itA [.int .i64 ts0,y, .str l0] w q lt k)) (hit:∀ fl hp,evI (cfg m) fl 14 [itA [.int .i64 ts0,y, .str l0] w q lt k] hp=some (entA ts z ln,hp)):LoopS (cfg m) fl 5 (bodyAt (cfg m) 5 11) 11 ⟨qsSt x l pb L Y true li bt i,hp⟩ ⟨qsSt x l pb L Y true li bt (i + 1),hp⟩:=by
 exact loopStepS (St.mk [J,TV.v (AI x),TV.v l,J,J,J,J,TV.v (AV.bool true),TV.bx pb,TV.bx [AI L,AI Y,AV.bool true],TV.v (AI li),TV.v (AI bt),TV.v (AV.bool true),TV.v (AI ((↑i:Int) + 1)),J,J,J,J,J,J,J,J,J,J,J,J,J,J,J,J,J,J,J,J,J,J,J,J,J,J,J,J,J,J,J,J,J,J,J,J,J,J,J,J,J,J,J,J,J,J,J,J,J,J,J,J,J,J,J,J,J,J,J,J,J,J,J,J,J,J,J,J,J,J,J,J,J,J,J,J,J,J,J,J,J,J,J,J,J,J,J,J,J,J,J,J,J,J,J,J,J,J,J,J,J,J,J,J,J,J,J] hp) [.m 11 2 (len_sl (C:=cfg m) (t:=49) (ts':=[]) (fl:=fl) (ar:=false) (hp:=hp) hl (by kernel_rfl)), .b 11 3 (decide_eq_true ((show (↑i:Int) < (↑ls.length:Int) from (by omega)))), .b 11 6 (decide_eq_true ((show (↑i:Int) < 20 from (by omega)))), .a 13 2 (indexAddr_sl (C:=cfg m) (t:=49) (n:=(↑i:Int)) hl (by kernel_rfl) (by omega) hv), .c 13 4 (hit (fl) (hp)), .c 14 2 (tk_c (m:=m) (fl:=fl) (hp:=hp) (ts:=ts) (a:=L) (b:=Y) (ls:=z) (ln:=ln) (c:=true) (by simp_all;done)), .b 15 12 (bne_eq_false_iff_eq.2 ((show L=L from rfl))), .b 15 18 (bne_eq_false_iff_eq.2 ((show Y=Y from rfl))), .w 12 1 IntKind.i64 ((↑i:Int) + 1) (wrap_i64' (by omega))] (by kernel_rfl) rfl
abbrev qsEnd (x:Int) (pb:List AV) (L Y:Int) (c:Bool) (li by':Int):List TV:=[J, .v (.int .i64 x),J,J,J,J,J, .v (.bool true), .bx pb, .bx [.int .i64 L, .int .i64 Y, .bool c], .v (.int .i64 li), .v (.int .i64 by'), .v (.bool c)]++List.replicate 108 J
theorem qs_x {m:Int} {fl i:Nat} {hp:List Blk} {l:AV} {ls pb:List AV} {L Y li bt x:Int} {c:Bool} (hl:IsSl 7 l ls) (hi:ls.length≤i∨20≤i) (hi2:i≤20):LoopI (cfg m) fl 5 (bodyAt (cfg m) 5 11) 11 ⟨qsSt x l pb L Y c li bt i,hp⟩ (.exit 0) ⟨qsEnd x pb L Y c li bt,hp⟩:=by
 by_cases h1:(↑i:Int) < (↑ls.length:Int)
 ·exact loopEndC (.exit 0) (St.mk ([J,TV.v (AI x),J,J,J,J,J,TV.v (AV.bool true),TV.bx pb,TV.bx [AI L,AI Y,AV.bool c],TV.v (AI li),TV.v (AI bt),TV.v (AV.bool c)]++Jn 108) hp) [.m 11 2 (len_sl (C:=cfg m) (t:=49) (ts':=[]) (fl:=fl) (ar:=false) (hp:=hp) hl (by kernel_rfl)), .b 11 3 (decide_eq_true h1), .b 11 6 (decide_eq_false ((show ¬(↑i:Int) < 20 from (by omega))))] (by kernel_rfl) (fun h=>by cases h) rfl
 ·exact loopEndC (.exit 0) (St.mk ([J,TV.v (AI x),J,J,J,J,J,TV.v (AV.bool true),TV.bx pb,TV.bx [AI L,AI Y,AV.bool c],TV.v (AI li),TV.v (AI bt),TV.v (AV.bool c)]++Jn 108) hp) [.m 11 2 (len_sl (C:=cfg m) (t:=49) (ts':=[]) (fl:=fl) (ar:=false) (hp:=hp) hl (by kernel_rfl)), .b 11 3 (decide_eq_false h1)] (by kernel_rfl) (fun h=>by cases h) rfl
theorem qs_a {m:Int} {hp':List Blk} {s0 n:List UInt8} {o l0 l rl:AV} {A B x q a0 b0 k L Y li bt:Int} {w c:Bool} (he:evI (cfg m) 0 8 [] []=some (.bool true,[])) (hr:evI (cfg m) 0 9 [.agg [.str s0,l0, .int .i64 a0, .int .i64 b0, .bool true, .int .u8 k,rl]] []=some (plA n o A B,hp')) (hm:∀ (fl:Nat) (hp:List Blk),evI (cfg m) fl 13 [plA n o A B, .int .i64 x] hp=some (quA q B,hp)) (hlp:LoopI (cfg m) 0 5 (bodyAt (cfg m) 5 11) 11 ⟨qsSt x l [.str n,o, .int .i64 A, .int .i64 B] q B false 0 0 0,hp'⟩ (.exit 0) ⟨qsEnd x [.str n,o, .int .i64 A, .int .i64 B] L Y c li bt,hp'⟩) (g1:li≤A) (g2:bt≤B) (g3:Y=B - bt) (g4:li≤bif decide (x < 0) then 0 else x) (g5:0≤bt) (g6:B≤9223372036854775807):evI (cfg m) 0 5 [.agg [.str s0,l0, .int .i64 a0, .int .i64 b0, .bool w, .int .u8 k,rl], .int .i64 x,l] []=some (.bool true,[]):=by
 rcases bcases (c) with h1 | h1
 ·exact evX (AV.bool true) (hp') [.c 1 0 he, .c 5 1 hr, .c 6 2 (hm (0) (hp')), .l 11 hlp, .b 22 5 (decide_eq_true ((show li≤bif true then bif decide (x < 0) then 0 else x else bif decide (0 < x) then 0 else x from (by simp_all;done)))), .b 22 11 (decide_eq_true (g1)), .b 22 17 (decide_eq_true (g2)), .lb 22 21 (hp') 9 h1, .b 22 22 h1, .w 22 31 IntKind.i64 (B - bt) (wrap_i64' (by omega)), .b 22 32 (beq_iff_eq.2 (g3))] (by kernel_rfl) (tlP (by kernel_rfl) rfl (shutT (v:=AV.bool true) (v':=AV.bool true) (by kernel_rfl))) rfl
 ·exact evX (AV.bool true) (hp') [.c 1 0 he, .c 5 1 hr, .c 6 2 (hm (0) (hp')), .l 11 hlp, .b 22 5 (decide_eq_true ((show li≤bif true then bif decide (x < 0) then 0 else x else bif decide (0 < x) then 0 else x from (by simp_all;done)))), .b 22 11 (decide_eq_true (g1)), .b 22 17 (decide_eq_true (g2)), .lb 22 21 (hp') 9 h1, .b 22 22 h1, .w 22 31 IntKind.i64 (B - bt) (wrap_i64' (by omega)), .b 22 32 (beq_iff_eq.2 (g3))] (by kernel_rfl) (tlP (by kernel_rfl) rfl (shutT (v:=AV.bool true) (v':=AV.bool true) (by kernel_rfl))) rfl
theorem qs_loop {m x q0 B:Int} {l:AV} {ls pb:List AV} (hl:IsSl 7 l ls) (hs:∀ v ∈ ls,Sh (cfg 0) 7 57 v) (hB:B≤9223372036854775807) (hq:q0≤9223372036854775807) (hp:List Blk):∀ (d i:Nat) (L Y li bt:Int) (c:Bool),d + i=20→L + li=q0→Y + bt=B→0≤li→li≤i→0≤bt→0≤L→0≤Y →
  ∃ L' Y' li' bt' c',LoopI (cfg m) 0 5 (bodyAt (cfg m) 5 11) 11 ⟨qsSt x l pb L Y c li bt i,hp⟩ (.exit 0) ⟨qsEnd x pb L' Y' c' li' bt',hp⟩∧L' + li'=q0∧Y' + bt'=B∧0≤bt'∧0≤L'∧0≤Y'
 | 0,i,L,Y,li,bt,c,hd,h1,h2,h3,h4,h5,h6,h7=>⟨L,Y,li,bt,c,qs_x hl (by omega) (by omega),h1,h2,h5,h6,h7⟩
 | d + 1,i,L,Y,li,bt,c,hd,h1,h2,h3,h4,h5,h6,h7=>by
  rcases Nat.lt_or_ge i ls.length with hi | hi
  ·obtain ⟨ts0,y,l0,w,q,lt,k,ts,z,lb,ln,he,hln,hlb,hit⟩:=item_ok (m:=m) (hs ls[i] (List.getElem_mem hi))
   have hv:ls[i]?=some (itA [.int .i64 ts0,y, .str l0] w q lt k):=by rw [List.getElem?_eq_getElem hi,he]
   rw [he] at hit
   cases c with
   | true =>
    obtain ⟨L',Y',li',bt',c',g1,g2⟩:=qs_loop hl hs hB hq hp d (i + 1) L Y li bt true (by omega) h1 h2 h3 (by omega) h5 h6 h7
    exact ⟨L',Y',li',bt',c',qs_n0 hl hi (by omega) hv hit _ _ g1,g2⟩
   | false =>
    by_cases h:1≤L∧(ln.length:Int)≤Y
    ·obtain ⟨L',Y',li',bt',c',g1,g2⟩:=qs_loop hl hs hB hq hp d (i + 1) (L - 1) (Y - ln.length) (li + 1) (bt + ln.length) false (by omega) (by omega) (by omega) (by omega) (by omega) (by omega) (by omega) (by omega)
     exact ⟨L',Y',li',bt',c',qs_f hl hi (by omega) hv hit h.1 (by omega) h.2 (by omega) h3 (by omega) h5 (by omega) _ _ g1,g2⟩
    ·obtain ⟨L',Y',li',bt',c',g1,g2⟩:=qs_loop hl hs hB hq hp d (i + 1) L Y li bt true (by omega) h1 h2 h3 (by omega) h5 h6 h7
     exact ⟨L',Y',li',bt',c',qs_n1 hl hi (by omega) hv hit (by omega) _ _ g1,g2⟩
  ·exact ⟨L,Y,li,bt,c,qs_x hl (.inl hi) (by omega),h1,h2,h5,h6,h7⟩
theorem u8r {q:Int}:0≤IntKind.u8.wrap q∧IntKind.u8.wrap q≤255:=by
 unfold IntKind.wrap
 simp [IntKind.signed,IntKind.bits]
 omega
theorem ru_own {m:Int} {s0:List UInt8} {l0 l:AV} {a0 b0 k:Int} {hs:List AV} (hl:IsSl 5 l hs) (hh:Hs hs) (hk:0≤k):∃ n o A B hp',evI (cfg m) 0 9 [.agg [.str s0,l0, .int .i64 a0, .int .i64 b0, .bool true, .int .u8 k,l]] []=some (plA n o A B,hp')∧0≤A∧A≤1000∧0≤B∧B≤1099511627776:=by
 obtain ⟨i,h1,h2⟩:=tmod_u 3 hk (by decide)
 have hn:(tnS.map AV.str)[i]?=some (AV.str tnS[i]):=by rw [List.getElem?_map,List.getElem?_eq_getElem h2];rfl
 by_cases h:k≥200
 ·obtain ⟨o',hp',h4⟩:=ru_loop (m:=m) (fl:=0) (s0:=s0) (n:=tnS[i]) (l0:=l0) (a0:=a0) (b0:=b0) (k:=k) (A:=1000) (B:=1099511627776) hl hh 2 0 [] .nilS [] rfl (.nil _ _ _) rfl (Nat.zero_le _)
  exact ⟨_,_,_,_,_,ru_hi h h1 h2 hn h4,by decide,by decide,by decide,by decide⟩
 ·obtain ⟨o',hp',h4⟩:=ru_loop (m:=m) (fl:=0) (s0:=s0) (n:=tnS[i]) (l0:=l0) (a0:=a0) (b0:=b0) (k:=k) (A:=IntKind.i64.wrap (Int.tmod (IntKind.u8.wrap (Int.tdiv k 3)) 30)) (B:=IntKind.i64.wrap (IntKind.u8.wrap (Int.tdiv k 2))) hl hh 2 0 [] .nilS [] rfl (.nil _ _ _) rfl (Nat.zero_le _)
  have r1:=u8r (q:=Int.tdiv k 3)
  have r2:=u8r (q:=Int.tdiv k 2)
  have r3:0≤Int.tmod (IntKind.u8.wrap (Int.tdiv k 3)) 30∧Int.tmod (IntKind.u8.wrap (Int.tdiv k 3)) 30 < 30:=by
   rw [Int.tmod_eq_emod_of_nonneg r1.1];omega
  refine ⟨_,_,_,_,_,ru_lo h h1 h2 hn h4, ?_, ?_, ?_, ?_⟩
  ·rw [wrap_i64 (by omega) (by omega)];omega
  ·rw [wrap_i64 (by omega) (by omega)];omega
  ·rw [wrap_i64 (by omega) (by omega)];omega
  ·rw [wrap_i64 (by omega) (by omega)];omega
theorem hsOf {d:Nat} {xs:List AV} (h:∀ y ∈ xs,Sh (cfg 0) (d + 3) 70 y):Hs xs:=fun y hy=>by
 obtain ⟨a,b,c,w,q,rfl,_,_,_,hq,_⟩:=sh70 (h y hy)
 exact ⟨a,b,c,w,q,rfl,hq⟩
theorem law_quota (r:AV) (x:Int) (l:AV) (sr:Sh (cfg 0) 8 30 r) (hx : -9223372036854775808≤x∧x≤9223372036854775807) (sl:Sh (cfg 0) 8 49 l):evI (cfg 0) 0 5 [r, .int .i64 x,l] []=some (.bool true,[]):=by
 obtain ⟨xs,h1,h2⟩:=sh49 sl
 obtain ⟨s0,l0,l0s,a0,b0,w,k,rl,rls,rfl,_,_,_,_,hk,⟨hr1,hr2⟩⟩:=sh30 sr
 obtain ⟨n,o,A,B,hp',hr,hA0,hA1,hB0,hB1⟩:=ru_own (m:=0) (s0:=s0) (l0:=l0) (a0:=a0) (b0:=b0) hr1.isSl (hsOf hr2) hk.1
 have hm:∀ (fl:Nat) (hp:List Blk),evI (cfg 0) fl 13 [plA n o A B, .int .i64 x] hp=some (quA (mq x A) B,hp):=fun fl hp=>my_w
 obtain ⟨q,hq,hc⟩:=my_q (x:=x) (A:=A)
 rw [hq] at hm
 have hq0:0≤q:=by omega
 have hqA:q≤A:=by omega
 obtain ⟨L',Y',li',bt',c',g1,g2,g3,g4,g5,g6⟩:=qs_loop (m:=0) (x:=x) (q0:=q) (B:=B) (pb:=[.str n,o, .int .i64 A, .int .i64 B]) h1.isSl h2 (by omega) (by omega) hp' 20 0 q B 0 0 false rfl (by omega) (by omega) (by omega) (by omega) (by omega) hq0 hB0
 refine qs_a ex0 hr hm g1 (by omega) (by omega) (by omega) ?_ g4 (by omega)
 by_cases hx0:x < 0
 ·rw [decide_eq_true hx0,cond_true rfl];omega
 ·rw [decide_eq_false hx0,cond_false rfl];omega
end Go.Proofs.YtbbndbckopljfaaGreatDoor.E.SW
