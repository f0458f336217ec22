/- Steps of the seat's proofs: an evaluator of the program's code, its soundness, and what the functions come to. -/
import Derived.Test.YtbbndbckopljfaaGreatDoorEaf
import Derived.KernelRfl
set_option linter.unusedSimpArgs false
set_option linter.unusedVariables false
namespace Go.Proofs.YtbbndbckopljfaaGreatDoor.E.SW
open Go Go.Proofs E E.R E.L
theorem app_40 {C:Cfg} {fl:Nat} {hp:List Blk} {x y:AV} {vs ws:List AV} {t:TypeId} (h:Gr fl 4 hp x vs) (hy:elems hp 4 y=some ws) (hv:0 < ws.length) (ht:elT C t 4 56=true) (hl:vs.length + ws.length≤20) (hf:fl≤hp.length) :
  ∃ g hp',(∀ ts,builtinE C fl false ⟨ts,hp⟩ .append [t,t] [x,y]=some ⟨.v (.lit 4 (.fam g 0) (vs++ws)),ts,hp',bif isArr y then .hw else .fw⟩)∧Gr fl 4 hp' (.lit 4 (.fam g 0) (vs++ws)) (vs++ws)∧FrC [] hp hp' :=
 app_4 h hy ht (List.length_pos_iff.1 hv) (by omega) hf
theorem app_4n {C:Cfg} {fl:Nat} {hp:List Blk} {y:AV} {ws:List AV} {t:TypeId} (hy:elems hp 4 y=some ws) (hv:0 < ws.length) (ht:elT C t 4 56=true) (hl:ws.length≤20) (hf:fl≤hp.length) :
  ∃ g hp',(∀ ts,builtinE C fl false ⟨ts,hp⟩ .append [t,t] [.nilS,y]=some ⟨.v (.lit 4 (.fam g 0) ws),ts,hp',bif isArr y then .hw else .fw⟩)∧Gr fl 4 hp' (.lit 4 (.fam g 0) ws) ws∧FrC [] hp hp' :=
 app_4 (.nil _ _ _) hy ht (List.length_pos_iff.1 hv) (by simp;omega) hf
theorem te_00 {m:Int} {mb pb:Nat} {hp1 hp2:List Blk} {l nv:AV} {rs vs ns:List AV} {s:Bs} (h8:∀ fl,evI (cfg m) fl 8 [] []=some (.bool true,[])) (hl:IsSl 7 l rs) (hv:vs.length=0) (hlp:LoopI (cfg m) 0 3 (bodyAt (cfg m) 3 6) 6 ⟨ttSt l s .nilS 0,[]⟩ (.exit 0) ⟨ttEnd s .nilS,hp1⟩) (hnw:∀ fl,evI (cfg m) fl 10 [.nilS] hp1=some (.tup [.ptr pb 0, .int .i64 0],hp2)) (hq:blkCells hp2 pb=some [.mpr mb]) (hnm:∀ fl,evI (cfg m) fl 11 [.mpr mb] hp2=some (nv,hp2)) (hns:IsSl 1 nv ns) (hnl:ns.length=0) (hlq:LoopI (cfg m) 0 3 (bodyAt (cfg m) 3 20) 20 ⟨tuSt s .nilS pb nv 0,hp2⟩ (.exit 2) ⟨tuEnd s .nilS pb,hp2⟩) (hof:∀ fl,evI (cfg m) fl 12 [.ptr pb 0, .str s] hp2=some (.tup [plA [] .nilS 0 0, .int .i64 6],hp2))  (hn2:∀ hp:List Blk,∃ p hp',evI (cfg m) 0 10 [.nilS] hp=some (.tup [.ptr p 0, .int .i64 0],hp')):evI (cfg m) 0 3 [l, .str s] []=some (.bool true,[]):=by
 obtain ⟨p1,hp'2,e3⟩:=(hn2 (hp2))
 exact evX (AV.bool true) (hp'2) [.c 1 0 (h8 (0)), .l 6 hlp, .c 13 1 (hnw (0)), .m 16 3 (load_ok (C:=cfg m) (t:=39) (off:=0) (x:=AV.mpr mb) hq (by kernel_rfl)), .c 16 4 (hnm (0)), .m 17 1 (len_sl (C:=cfg m) (t:=32) (ts':=[]) (fl:=0) (ar:=false) (hp:=hp2) hns (by kernel_rfl)), .b 17 4 (bne_eq_false_iff_eq.2 ((show (↑ns.length:Int)=0 from (by omega)))), .l 20 hlq, .c 25 2 (hof (0)), .c 27 4 e3] (by kernel_rfl) (tlP (by kernel_rfl) rfl (shutT (v:=AV.bool true) (v':=AV.bool true) (by kernel_rfl))) rfl
theorem te_10 {m:Int} {mb pb g:Nat} {hp1 hp2:List Blk} {l nv o:AV} {rs vs ns:List AV} {n:Bs} {A B:Int} (h8:∀ fl,evI (cfg m) fl 8 [] []=some (.bool true,[])) (hl:IsSl 7 l rs) (hv:vs.length=1) (hlp:LoopI (cfg m) 0 3 (bodyAt (cfg m) 3 6) 6 ⟨ttSt l [99] .nilS 0,[]⟩ (.exit 0) ⟨ttEnd [99] (.lit 4 (.fam g 0) vs),hp1⟩) (hnw:∀ fl,evI (cfg m) fl 10 [(.lit 4 (.fam g 0) vs)] hp1=some (.tup [.ptr pb 0, .int .i64 0],hp2)) (hq:blkCells hp2 pb=some [.mpr mb]) (hnm:∀ fl,evI (cfg m) fl 11 [.mpr mb] hp2=some (nv,hp2)) (hns:IsSl 1 nv ns) (hnl:ns.length=1) (hlq:LoopI (cfg m) 0 3 (bodyAt (cfg m) 3 20) 20 ⟨tuSt [99] (.lit 4 (.fam g 0) vs) pb nv 0,hp2⟩ (.exit 2) ⟨tuEnd [99] (.lit 4 (.fam g 0) vs) pb,hp2⟩) (hof:∀ fl,evI (cfg m) fl 12 [.ptr pb 0, .str [99]] hp2=some (.tup [plA n o A B, .int .i64 0],hp2))  (hn2:∀ (g:Nat) (hp:List Blk),∃ hp',evI (cfg m) 0 10 [.lit 4 (.fam g 0) (vs++vs)] hp=some (.tup [.nilP, .int .i64 1],hp')):evI (cfg m) 0 3 [l, .str [99]] []=some (.bool true,[]):=by
 obtain ⟨g1,hp'2,e3,h4,h5⟩:=(app_4n (C:=cfg m) (fl:=0) (hp:=hp2) (y:=AV.lit 4 (Own.fam g 0) vs) (ws:=vs) (t:=24) (by kernel_rfl) (by omega) (by kernel_rfl) (by omega) (by omega))
 obtain ⟨g6,hp'7,e8,h9,h10⟩:=(app_40 (C:=cfg m) (y:=AV.lit 4 (Own.fam g 0) vs) (ws:=vs) (t:=24) h4 (by kernel_rfl) (by omega) (by kernel_rfl) (by omega) (by omega))
 obtain ⟨hp'11,e12⟩:=(hn2 (g6) (hp'7))
 exact evX (AV.bool true) (hp'11) [.c 1 0 (h8 (0)), .l 6 hlp, .c 13 1 (hnw (0)), .m 16 3 (load_ok (C:=cfg m) (t:=39) (off:=0) (x:=AV.mpr mb) hq (by kernel_rfl)), .c 16 4 (hnm (0)), .m 17 1 (len_sl (C:=cfg m) (t:=32) (ts':=[]) (fl:=0) (ar:=false) (hp:=hp2) hns (by kernel_rfl)), .b 17 4 (bne_eq_false_iff_eq.2 ((show (↑ns.length:Int)=(↑vs.length:Int) from (by omega)))), .l 20 hlq, .c 25 2 (hof (0)), .b 26 2 (decide_eq_true ((show (↑vs.length:Int) > 0 from (by omega)))), .m 27 1 e3, .m 27 3 e8, .c 27 4 e12, .b 28 12 (decide_eq_true ((show (↑vs.length:Int) > 0 from (by omega)))), .b 28 20 (decide_eq_true ((show (↑vs.length:Int) > 0 from (by omega))))] (by kernel_rfl) (tlP (by kernel_rfl) rfl (shutT (v:=AV.bool true) (v':=AV.bool true) (by kernel_rfl))) rfl
theorem te_11 {m:Int} {mb pb g:Nat} {hp1 hp2:List Blk} {l nv:AV} {rs vs ns:List AV} {s:Bs} (h8:∀ fl,evI (cfg m) fl 8 [] []=some (.bool true,[])) (hl:IsSl 7 l rs) (hv:vs.length=1) (hlp:LoopI (cfg m) 0 3 (bodyAt (cfg m) 3 6) 6 ⟨ttSt l s .nilS 0,[]⟩ (.exit 0) ⟨ttEnd s (.lit 4 (.fam g 0) vs),hp1⟩) (hnw:∀ fl,evI (cfg m) fl 10 [(.lit 4 (.fam g 0) vs)] hp1=some (.tup [.ptr pb 0, .int .i64 0],hp2)) (hq:blkCells hp2 pb=some [.mpr mb]) (hnm:∀ fl,evI (cfg m) fl 11 [.mpr mb] hp2=some (nv,hp2)) (hns:IsSl 1 nv ns) (hnl:ns.length=1) (hlq:LoopI (cfg m) 0 3 (bodyAt (cfg m) 3 20) 20 ⟨tuSt s (.lit 4 (.fam g 0) vs) pb nv 0,hp2⟩ (.exit 2) ⟨tuEnd s (.lit 4 (.fam g 0) vs) pb,hp2⟩) (hof:∀ fl,evI (cfg m) fl 12 [.ptr pb 0, .str s] hp2=some (.tup [plA [] .nilS 0 0, .int .i64 6],hp2)) (hx:s≠[99]) (hn2:∀ (g:Nat) (hp:List Blk),∃ hp',evI (cfg m) 0 10 [.lit 4 (.fam g 0) (vs++vs)] hp=some (.tup [.nilP, .int .i64 1],hp')):evI (cfg m) 0 3 [l, .str s] []=some (.bool true,[]):=by
 obtain ⟨g1,hp'2,e3,h4,h5⟩:=(app_4n (C:=cfg m) (fl:=0) (hp:=hp2) (y:=AV.lit 4 (Own.fam g 0) vs) (ws:=vs) (t:=24) (by kernel_rfl) (by omega) (by kernel_rfl) (by omega) (by omega))
 obtain ⟨g6,hp'7,e8,h9,h10⟩:=(app_40 (C:=cfg m) (y:=AV.lit 4 (Own.fam g 0) vs) (ws:=vs) (t:=24) h4 (by kernel_rfl) (by omega) (by kernel_rfl) (by omega) (by omega))
 obtain ⟨hp'11,e12⟩:=(hn2 (g6) (hp'7))
 exact evX (AV.bool true) (hp'11) [.c 1 0 (h8 (0)), .l 6 hlp, .c 13 1 (hnw (0)), .m 16 3 (load_ok (C:=cfg m) (t:=39) (off:=0) (x:=AV.mpr mb) hq (by kernel_rfl)), .c 16 4 (hnm (0)), .m 17 1 (len_sl (C:=cfg m) (t:=32) (ts':=[]) (fl:=0) (ar:=false) (hp:=hp2) hns (by kernel_rfl)), .b 17 4 (bne_eq_false_iff_eq.2 ((show (↑ns.length:Int)=(↑vs.length:Int) from (by omega)))), .l 20 hlq, .c 25 2 (hof (0)), .b 26 2 (decide_eq_true ((show (↑vs.length:Int) > 0 from (by omega)))), .b 26 5 (beq_false_of_ne (hx)), .b 26 10 (decide_eq_false ((show ¬(↑vs.length:Int) > 1 from (by omega)))), .b 26 19 (decide_eq_false ((show ¬(↑vs.length:Int) > 2 from (by omega)))), .m 27 1 e3, .m 27 3 e8, .c 27 4 e12, .b 28 12 (decide_eq_true ((show (↑vs.length:Int) > 0 from (by omega)))), .b 28 20 (decide_eq_true ((show (↑vs.length:Int) > 0 from (by omega))))] (by kernel_rfl) (tlP (by kernel_rfl) rfl (shutT (v:=AV.bool true) (v':=AV.bool true) (by kernel_rfl))) rfl
theorem te_20 {m:Int} {mb pb g:Nat} {hp1 hp2:List Blk} {l nv o:AV} {rs vs ns:List AV} {n:Bs} {A B:Int} (h8:∀ fl,evI (cfg m) fl 8 [] []=some (.bool true,[])) (hl:IsSl 7 l rs) (hv:vs.length=2) (hlp:LoopI (cfg m) 0 3 (bodyAt (cfg m) 3 6) 6 ⟨ttSt l [99] .nilS 0,[]⟩ (.exit 0) ⟨ttEnd [99] (.lit 4 (.fam g 0) vs),hp1⟩) (hnw:∀ fl,evI (cfg m) fl 10 [(.lit 4 (.fam g 0) vs)] hp1=some (.tup [.ptr pb 0, .int .i64 0],hp2)) (hq:blkCells hp2 pb=some [.mpr mb]) (hnm:∀ fl,evI (cfg m) fl 11 [.mpr mb] hp2=some (nv,hp2)) (hns:IsSl 1 nv ns) (hnl:ns.length=2) (hlq:LoopI (cfg m) 0 3 (bodyAt (cfg m) 3 20) 20 ⟨tuSt [99] (.lit 4 (.fam g 0) vs) pb nv 0,hp2⟩ (.exit 2) ⟨tuEnd [99] (.lit 4 (.fam g 0) vs) pb,hp2⟩) (hof:∀ fl,evI (cfg m) fl 12 [.ptr pb 0, .str [99]] hp2=some (.tup [plA n o A B, .int .i64 0],hp2))  (hn2:∀ (g:Nat) (hp:List Blk),∃ hp',evI (cfg m) 0 10 [.lit 4 (.fam g 0) (vs++vs)] hp=some (.tup [.nilP, .int .i64 1],hp')):evI (cfg m) 0 3 [l, .str [99]] []=some (.bool true,[]):=by
 obtain ⟨g1,hp'2,e3,h4,h5⟩:=(app_4n (C:=cfg m) (fl:=0) (hp:=hp2) (y:=AV.lit 4 (Own.fam g 0) vs) (ws:=vs) (t:=24) (by kernel_rfl) (by omega) (by kernel_rfl) (by omega) (by omega))
 obtain ⟨g6,hp'7,e8,h9,h10⟩:=(app_40 (C:=cfg m) (y:=AV.lit 4 (Own.fam g 0) vs) (ws:=vs) (t:=24) h4 (by kernel_rfl) (by omega) (by kernel_rfl) (by omega) (by omega))
 obtain ⟨hp'11,e12⟩:=(hn2 (g6) (hp'7))
 exact evX (AV.bool true) (hp'11) [.c 1 0 (h8 (0)), .l 6 hlp, .c 13 1 (hnw (0)), .m 16 3 (load_ok (C:=cfg m) (t:=39) (off:=0) (x:=AV.mpr mb) hq (by kernel_rfl)), .c 16 4 (hnm (0)), .m 17 1 (len_sl (C:=cfg m) (t:=32) (ts':=[]) (fl:=0) (ar:=false) (hp:=hp2) hns (by kernel_rfl)), .b 17 4 (bne_eq_false_iff_eq.2 ((show (↑ns.length:Int)=(↑vs.length:Int) from (by omega)))), .l 20 hlq, .c 25 2 (hof (0)), .b 26 2 (decide_eq_true ((show (↑vs.length:Int) > 0 from (by omega)))), .m 27 1 e3, .m 27 3 e8, .c 27 4 e12, .b 28 12 (decide_eq_true ((show (↑vs.length:Int) > 0 from (by omega)))), .b 28 20 (decide_eq_true ((show (↑vs.length:Int) > 0 from (by omega))))] (by kernel_rfl) (tlP (by kernel_rfl) rfl (shutT (v:=AV.bool true) (v':=AV.bool true) (by kernel_rfl))) rfl
theorem te_21 {m:Int} {mb pb g:Nat} {hp1 hp2:List Blk} {l nv o:AV} {rs vs ns:List AV} {n:Bs} {A B:Int} (h8:∀ fl,evI (cfg m) fl 8 [] []=some (.bool true,[])) (hl:IsSl 7 l rs) (hv:vs.length=2) (hlp:LoopI (cfg m) 0 3 (bodyAt (cfg m) 3 6) 6 ⟨ttSt l [97] .nilS 0,[]⟩ (.exit 0) ⟨ttEnd [97] (.lit 4 (.fam g 0) vs),hp1⟩) (hnw:∀ fl,evI (cfg m) fl 10 [(.lit 4 (.fam g 0) vs)] hp1=some (.tup [.ptr pb 0, .int .i64 0],hp2)) (hq:blkCells hp2 pb=some [.mpr mb]) (hnm:∀ fl,evI (cfg m) fl 11 [.mpr mb] hp2=some (nv,hp2)) (hns:IsSl 1 nv ns) (hnl:ns.length=2) (hlq:LoopI (cfg m) 0 3 (bodyAt (cfg m) 3 20) 20 ⟨tuSt [97] (.lit 4 (.fam g 0) vs) pb nv 0,hp2⟩ (.exit 2) ⟨tuEnd [97] (.lit 4 (.fam g 0) vs) pb,hp2⟩) (hof:∀ fl,evI (cfg m) fl 12 [.ptr pb 0, .str [97]] hp2=some (.tup [plA n o A B, .int .i64 0],hp2))  (hn2:∀ (g:Nat) (hp:List Blk),∃ hp',evI (cfg m) 0 10 [.lit 4 (.fam g 0) (vs++vs)] hp=some (.tup [.nilP, .int .i64 1],hp')):evI (cfg m) 0 3 [l, .str [97]] []=some (.bool true,[]):=by
 obtain ⟨g1,hp'2,e3,h4,h5⟩:=(app_4n (C:=cfg m) (fl:=0) (hp:=hp2) (y:=AV.lit 4 (Own.fam g 0) vs) (ws:=vs) (t:=24) (by kernel_rfl) (by omega) (by kernel_rfl) (by omega) (by omega))
 obtain ⟨g6,hp'7,e8,h9,h10⟩:=(app_40 (C:=cfg m) (y:=AV.lit 4 (Own.fam g 0) vs) (ws:=vs) (t:=24) h4 (by kernel_rfl) (by omega) (by kernel_rfl) (by omega) (by omega))
 obtain ⟨hp'11,e12⟩:=(hn2 (g6) (hp'7))
 exact evX (AV.bool true) (hp'11) [.c 1 0 (h8 (0)), .l 6 hlp, .c 13 1 (hnw (0)), .m 16 3 (load_ok (C:=cfg m) (t:=39) (off:=0) (x:=AV.mpr mb) hq (by kernel_rfl)), .c 16 4 (hnm (0)), .m 17 1 (len_sl (C:=cfg m) (t:=32) (ts':=[]) (fl:=0) (ar:=false) (hp:=hp2) hns (by kernel_rfl)), .b 17 4 (bne_eq_false_iff_eq.2 ((show (↑ns.length:Int)=(↑vs.length:Int) from (by omega)))), .l 20 hlq, .c 25 2 (hof (0)), .b 26 2 (decide_eq_true ((show (↑vs.length:Int) > 0 from (by omega)))), .b 26 10 (decide_eq_true ((show (↑vs.length:Int) > 1 from (by omega)))), .m 27 1 e3, .m 27 3 e8, .c 27 4 e12, .b 28 12 (decide_eq_true ((show (↑vs.length:Int) > 0 from (by omega)))), .b 28 20 (decide_eq_true ((show (↑vs.length:Int) > 0 from (by omega))))] (by kernel_rfl) (tlP (by kernel_rfl) rfl (shutT (v:=AV.bool true) (v':=AV.bool true) (by kernel_rfl))) rfl
theorem te_22 {m:Int} {mb pb g:Nat} {hp1 hp2:List Blk} {l nv:AV} {rs vs ns:List AV} {s:Bs} (h8:∀ fl,evI (cfg m) fl 8 [] []=some (.bool true,[])) (hl:IsSl 7 l rs) (hv:vs.length=2) (hlp:LoopI (cfg m) 0 3 (bodyAt (cfg m) 3 6) 6 ⟨ttSt l s .nilS 0,[]⟩ (.exit 0) ⟨ttEnd s (.lit 4 (.fam g 0) vs),hp1⟩) (hnw:∀ fl,evI (cfg m) fl 10 [(.lit 4 (.fam g 0) vs)] hp1=some (.tup [.ptr pb 0, .int .i64 0],hp2)) (hq:blkCells hp2 pb=some [.mpr mb]) (hnm:∀ fl,evI (cfg m) fl 11 [.mpr mb] hp2=some (nv,hp2)) (hns:IsSl 1 nv ns) (hnl:ns.length=2) (hlq:LoopI (cfg m) 0 3 (bodyAt (cfg m) 3 20) 20 ⟨tuSt s (.lit 4 (.fam g 0) vs) pb nv 0,hp2⟩ (.exit 2) ⟨tuEnd s (.lit 4 (.fam g 0) vs) pb,hp2⟩) (hof:∀ fl,evI (cfg m) fl 12 [.ptr pb 0, .str s] hp2=some (.tup [plA [] .nilS 0 0, .int .i64 6],hp2)) (hx:s≠[99]) (hy:s≠[97]) (hn2:∀ (g:Nat) (hp:List Blk),∃ hp',evI (cfg m) 0 10 [.lit 4 (.fam g 0) (vs++vs)] hp=some (.tup [.nilP, .int .i64 1],hp')):evI (cfg m) 0 3 [l, .str s] []=some (.bool true,[]):=by
 obtain ⟨g1,hp'2,e3,h4,h5⟩:=(app_4n (C:=cfg m) (fl:=0) (hp:=hp2) (y:=AV.lit 4 (Own.fam g 0) vs) (ws:=vs) (t:=24) (by kernel_rfl) (by omega) (by kernel_rfl) (by omega) (by omega))
 obtain ⟨g6,hp'7,e8,h9,h10⟩:=(app_40 (C:=cfg m) (y:=AV.lit 4 (Own.fam g 0) vs) (ws:=vs) (t:=24) h4 (by kernel_rfl) (by omega) (by kernel_rfl) (by omega) (by omega))
 obtain ⟨hp'11,e12⟩:=(hn2 (g6) (hp'7))
 exact evX (AV.bool true) (hp'11) [.c 1 0 (h8 (0)), .l 6 hlp, .c 13 1 (hnw (0)), .m 16 3 (load_ok (C:=cfg m) (t:=39) (off:=0) (x:=AV.mpr mb) hq (by kernel_rfl)), .c 16 4 (hnm (0)), .m 17 1 (len_sl (C:=cfg m) (t:=32) (ts':=[]) (fl:=0) (ar:=false) (hp:=hp2) hns (by kernel_rfl)), .b 17 4 (bne_eq_false_iff_eq.2 ((show (↑ns.length:Int)=(↑vs.length:Int) from (by omega)))), .l 20 hlq, .c 25 2 (hof (0)), .b 26 2 (decide_eq_true ((show (↑vs.length:Int) > 0 from (by omega)))), .b 26 5 (beq_false_of_ne (hx)), .b 26 10 (decide_eq_true ((show (↑vs.length:Int) > 1 from (by omega)))), .b 26 13 (beq_false_of_ne (hy)), .b 26 19 (decide_eq_false ((show ¬(↑vs.length:Int) > 2 from (by omega)))), .m 27 1 e3, .m 27 3 e8, .c 27 4 e12, .b 28 12 (decide_eq_true ((show (↑vs.length:Int) > 0 from (by omega)))), .b 28 20 (decide_eq_true ((show (↑vs.length:Int) > 0 from (by omega))))] (by kernel_rfl) (tlP (by kernel_rfl) rfl (shutT (v:=AV.bool true) (v':=AV.bool true) (by kernel_rfl))) rfl
theorem te_30 {m:Int} {mb pb g:Nat} {hp1 hp2:List Blk} {l nv o:AV} {rs vs ns:List AV} {n:Bs} {A B:Int} (h8:∀ fl,evI (cfg m) fl 8 [] []=some (.bool true,[])) (hl:IsSl 7 l rs) (hv:vs.length=3) (hlp:LoopI (cfg m) 0 3 (bodyAt (cfg m) 3 6) 6 ⟨ttSt l [99] .nilS 0,[]⟩ (.exit 0) ⟨ttEnd [99] (.lit 4 (.fam g 0) vs),hp1⟩) (hnw:∀ fl,evI (cfg m) fl 10 [(.lit 4 (.fam g 0) vs)] hp1=some (.tup [.ptr pb 0, .int .i64 0],hp2)) (hq:blkCells hp2 pb=some [.mpr mb]) (hnm:∀ fl,evI (cfg m) fl 11 [.mpr mb] hp2=some (nv,hp2)) (hns:IsSl 1 nv ns) (hnl:ns.length=3) (hlq:LoopI (cfg m) 0 3 (bodyAt (cfg m) 3 20) 20 ⟨tuSt [99] (.lit 4 (.fam g 0) vs) pb nv 0,hp2⟩ (.exit 2) ⟨tuEnd [99] (.lit 4 (.fam g 0) vs) pb,hp2⟩) (hof:∀ fl,evI (cfg m) fl 12 [.ptr pb 0, .str [99]] hp2=some (.tup [plA n o A B, .int .i64 0],hp2))  (hn2:∀ (g:Nat) (hp:List Blk),∃ hp',evI (cfg m) 0 10 [.lit 4 (.fam g 0) (vs++vs)] hp=some (.tup [.nilP, .int .i64 1],hp')):evI (cfg m) 0 3 [l, .str [99]] []=some (.bool true,[]):=by
 obtain ⟨g1,hp'2,e3,h4,h5⟩:=(app_4n (C:=cfg m) (fl:=0) (hp:=hp2) (y:=AV.lit 4 (Own.fam g 0) vs) (ws:=vs) (t:=24) (by kernel_rfl) (by omega) (by kernel_rfl) (by omega) (by omega))
 obtain ⟨g6,hp'7,e8,h9,h10⟩:=(app_40 (C:=cfg m) (y:=AV.lit 4 (Own.fam g 0) vs) (ws:=vs) (t:=24) h4 (by kernel_rfl) (by omega) (by kernel_rfl) (by omega) (by omega))
 obtain ⟨hp'11,e12⟩:=(hn2 (g6) (hp'7))
 exact evX (AV.bool true) (hp'11) [.c 1 0 (h8 (0)), .l 6 hlp, .c 13 1 (hnw (0)), .m 16 3 (load_ok (C:=cfg m) (t:=39) (off:=0) (x:=AV.mpr mb) hq (by kernel_rfl)), .c 16 4 (hnm (0)), .m 17 1 (len_sl (C:=cfg m) (t:=32) (ts':=[]) (fl:=0) (ar:=false) (hp:=hp2) hns (by kernel_rfl)), .b 17 4 (bne_eq_false_iff_eq.2 ((show (↑ns.length:Int)=(↑vs.length:Int) from (by omega)))), .l 20 hlq, .c 25 2 (hof (0)), .b 26 2 (decide_eq_true ((show (↑vs.length:Int) > 0 from (by omega)))), .m 27 1 e3, .m 27 3 e8, .c 27 4 e12, .b 28 12 (decide_eq_true ((show (↑vs.length:Int) > 0 from (by omega)))), .b 28 20 (decide_eq_true ((show (↑vs.length:Int) > 0 from (by omega))))] (by kernel_rfl) (tlP (by kernel_rfl) rfl (shutT (v:=AV.bool true) (v':=AV.bool true) (by kernel_rfl))) rfl
theorem te_31 {m:Int} {mb pb g:Nat} {hp1 hp2:List Blk} {l nv o:AV} {rs vs ns:List AV} {n:Bs} {A B:Int} (h8:∀ fl,evI (cfg m) fl 8 [] []=some (.bool true,[])) (hl:IsSl 7 l rs) (hv:vs.length=3) (hlp:LoopI (cfg m) 0 3 (bodyAt (cfg m) 3 6) 6 ⟨ttSt l [97] .nilS 0,[]⟩ (.exit 0) ⟨ttEnd [97] (.lit 4 (.fam g 0) vs),hp1⟩) (hnw:∀ fl,evI (cfg m) fl 10 [(.lit 4 (.fam g 0) vs)] hp1=some (.tup [.ptr pb 0, .int .i64 0],hp2)) (hq:blkCells hp2 pb=some [.mpr mb]) (hnm:∀ fl,evI (cfg m) fl 11 [.mpr mb] hp2=some (nv,hp2)) (hns:IsSl 1 nv ns) (hnl:ns.length=3) (hlq:LoopI (cfg m) 0 3 (bodyAt (cfg m) 3 20) 20 ⟨tuSt [97] (.lit 4 (.fam g 0) vs) pb nv 0,hp2⟩ (.exit 2) ⟨tuEnd [97] (.lit 4 (.fam g 0) vs) pb,hp2⟩) (hof:∀ fl,evI (cfg m) fl 12 [.ptr pb 0, .str [97]] hp2=some (.tup [plA n o A B, .int .i64 0],hp2))  (hn2:∀ (g:Nat) (hp:List Blk),∃ hp',evI (cfg m) 0 10 [.lit 4 (.fam g 0) (vs++vs)] hp=some (.tup [.nilP, .int .i64 1],hp')):evI (cfg m) 0 3 [l, .str [97]] []=some (.bool true,[]):=by
 obtain ⟨g1,hp'2,e3,h4,h5⟩:=(app_4n (C:=cfg m) (fl:=0) (hp:=hp2) (y:=AV.lit 4 (Own.fam g 0) vs) (ws:=vs) (t:=24) (by kernel_rfl) (by omega) (by kernel_rfl) (by omega) (by omega))
 obtain ⟨g6,hp'7,e8,h9,h10⟩:=(app_40 (C:=cfg m) (y:=AV.lit 4 (Own.fam g 0) vs) (ws:=vs) (t:=24) h4 (by kernel_rfl) (by omega) (by kernel_rfl) (by omega) (by omega))
 obtain ⟨hp'11,e12⟩:=(hn2 (g6) (hp'7))
 exact evX (AV.bool true) (hp'11) [.c 1 0 (h8 (0)), .l 6 hlp, .c 13 1 (hnw (0)), .m 16 3 (load_ok (C:=cfg m) (t:=39) (off:=0) (x:=AV.mpr mb) hq (by kernel_rfl)), .c 16 4 (hnm (0)), .m 17 1 (len_sl (C:=cfg m) (t:=32) (ts':=[]) (fl:=0) (ar:=false) (hp:=hp2) hns (by kernel_rfl)), .b 17 4 (bne_eq_false_iff_eq.2 ((show (↑ns.length:Int)=(↑vs.length:Int) from (by omega)))), .l 20 hlq, .c 25 2 (hof (0)), .b 26 2 (decide_eq_true ((show (↑vs.length:Int) > 0 from (by omega)))), .b 26 10 (decide_eq_true ((show (↑vs.length:Int) > 1 from (by omega)))), .m 27 1 e3, .m 27 3 e8, .c 27 4 e12, .b 28 12 (decide_eq_true ((show (↑vs.length:Int) > 0 from (by omega)))), .b 28 20 (decide_eq_true ((show (↑vs.length:Int) > 0 from (by omega))))] (by kernel_rfl) (tlP (by kernel_rfl) rfl (shutT (v:=AV.bool true) (v':=AV.bool true) (by kernel_rfl))) rfl
theorem te_32 {m:Int} {mb pb g:Nat} {hp1 hp2:List Blk} {l nv o:AV} {rs vs ns:List AV} {n:Bs} {A B:Int} (h8:∀ fl,evI (cfg m) fl 8 [] []=some (.bool true,[])) (hl:IsSl 7 l rs) (hv:vs.length=3) (hlp:LoopI (cfg m) 0 3 (bodyAt (cfg m) 3 6) 6 ⟨ttSt l [98] .nilS 0,[]⟩ (.exit 0) ⟨ttEnd [98] (.lit 4 (.fam g 0) vs),hp1⟩) (hnw:∀ fl,evI (cfg m) fl 10 [(.lit 4 (.fam g 0) vs)] hp1=some (.tup [.ptr pb 0, .int .i64 0],hp2)) (hq:blkCells hp2 pb=some [.mpr mb]) (hnm:∀ fl,evI (cfg m) fl 11 [.mpr mb] hp2=some (nv,hp2)) (hns:IsSl 1 nv ns) (hnl:ns.length=3) (hlq:LoopI (cfg m) 0 3 (bodyAt (cfg m) 3 20) 20 ⟨tuSt [98] (.lit 4 (.fam g 0) vs) pb nv 0,hp2⟩ (.exit 2) ⟨tuEnd [98] (.lit 4 (.fam g 0) vs) pb,hp2⟩) (hof:∀ fl,evI (cfg m) fl 12 [.ptr pb 0, .str [98]] hp2=some (.tup [plA n o A B, .int .i64 0],hp2))  (hn2:∀ (g:Nat) (hp:List Blk),∃ hp',evI (cfg m) 0 10 [.lit 4 (.fam g 0) (vs++vs)] hp=some (.tup [.nilP, .int .i64 1],hp')):evI (cfg m) 0 3 [l, .str [98]] []=some (.bool true,[]):=by
 obtain ⟨g1,hp'2,e3,h4,h5⟩:=(app_4n (C:=cfg m) (fl:=0) (hp:=hp2) (y:=AV.lit 4 (Own.fam g 0) vs) (ws:=vs) (t:=24) (by kernel_rfl) (by omega) (by kernel_rfl) (by omega) (by omega))
 obtain ⟨g6,hp'7,e8,h9,h10⟩:=(app_40 (C:=cfg m) (y:=AV.lit 4 (Own.fam g 0) vs) (ws:=vs) (t:=24) h4 (by kernel_rfl) (by omega) (by kernel_rfl) (by omega) (by omega))
 obtain ⟨hp'11,e12⟩:=(hn2 (g6) (hp'7))
 exact evX (AV.bool true) (hp'11) [.c 1 0 (h8 (0)), .l 6 hlp, .c 13 1 (hnw (0)), .m 16 3 (load_ok (C:=cfg m) (t:=39) (off:=0) (x:=AV.mpr mb) hq (by kernel_rfl)), .c 16 4 (hnm (0)), .m 17 1 (len_sl (C:=cfg m) (t:=32) (ts':=[]) (fl:=0) (ar:=false) (hp:=hp2) hns (by kernel_rfl)), .b 17 4 (bne_eq_false_iff_eq.2 ((show (↑ns.length:Int)=(↑vs.length:Int) from (by omega)))), .l 20 hlq, .c 25 2 (hof (0)), .b 26 2 (decide_eq_true ((show (↑vs.length:Int) > 0 from (by omega)))), .b 26 10 (decide_eq_true ((show (↑vs.length:Int) > 1 from (by omega)))), .b 26 19 (decide_eq_true ((show (↑vs.length:Int) > 2 from (by omega)))), .m 27 1 e3, .m 27 3 e8, .c 27 4 e12, .b 28 12 (decide_eq_true ((show (↑vs.length:Int) > 0 from (by omega)))), .b 28 20 (decide_eq_true ((show (↑vs.length:Int) > 0 from (by omega))))] (by kernel_rfl) (tlP (by kernel_rfl) rfl (shutT (v:=AV.bool true) (v':=AV.bool true) (by kernel_rfl))) rfl
theorem te_33 {m:Int} {mb pb g:Nat} {hp1 hp2:List Blk} {l nv:AV} {rs vs ns:List AV} {s:Bs} (h8:∀ fl,evI (cfg m) fl 8 [] []=some (.bool true,[])) (hl:IsSl 7 l rs) (hv:vs.length=3) (hlp:LoopI (cfg m) 0 3 (bodyAt (cfg m) 3 6) 6 ⟨ttSt l s .nilS 0,[]⟩ (.exit 0) ⟨ttEnd s (.lit 4 (.fam g 0) vs),hp1⟩) (hnw:∀ fl,evI (cfg m) fl 10 [(.lit 4 (.fam g 0) vs)] hp1=some (.tup [.ptr pb 0, .int .i64 0],hp2)) (hq:blkCells hp2 pb=some [.mpr mb]) (hnm:∀ fl,evI (cfg m) fl 11 [.mpr mb] hp2=some (nv,hp2)) (hns:IsSl 1 nv ns) (hnl:ns.length=3) (hlq:LoopI (cfg m) 0 3 (bodyAt (cfg m) 3 20) 20 ⟨tuSt s (.lit 4 (.fam g 0) vs) pb nv 0,hp2⟩ (.exit 2) ⟨tuEnd s (.lit 4 (.fam g 0) vs) pb,hp2⟩) (hof:∀ fl,evI (cfg m) fl 12 [.ptr pb 0, .str s] hp2=some (.tup [plA [] .nilS 0 0, .int .i64 6],hp2)) (hx:s≠[99]) (hy:s≠[97]) (hz:s≠[98]) (hn2:∀ (g:Nat) (hp:List Blk),∃ hp',evI (cfg m) 0 10 [.lit 4 (.fam g 0) (vs++vs)] hp=some (.tup [.nilP, .int .i64 1],hp')):evI (cfg m) 0 3 [l, .str s] []=some (.bool true,[]):=by
 obtain ⟨g1,hp'2,e3,h4,h5⟩:=(app_4n (C:=cfg m) (fl:=0) (hp:=hp2) (y:=AV.lit 4 (Own.fam g 0) vs) (ws:=vs) (t:=24) (by kernel_rfl) (by omega) (by kernel_rfl) (by omega) (by omega))
 obtain ⟨g6,hp'7,e8,h9,h10⟩:=(app_40 (C:=cfg m) (y:=AV.lit 4 (Own.fam g 0) vs) (ws:=vs) (t:=24) h4 (by kernel_rfl) (by omega) (by kernel_rfl) (by omega) (by omega))
 obtain ⟨hp'11,e12⟩:=(hn2 (g6) (hp'7))
 exact evX (AV.bool true) (hp'11) [.c 1 0 (h8 (0)), .l 6 hlp, .c 13 1 (hnw (0)), .m 16 3 (load_ok (C:=cfg m) (t:=39) (off:=0) (x:=AV.mpr mb) hq (by kernel_rfl)), .c 16 4 (hnm (0)), .m 17 1 (len_sl (C:=cfg m) (t:=32) (ts':=[]) (fl:=0) (ar:=false) (hp:=hp2) hns (by kernel_rfl)), .b 17 4 (bne_eq_false_iff_eq.2 ((show (↑ns.length:Int)=(↑vs.length:Int) from (by omega)))), .l 20 hlq, .c 25 2 (hof (0)), .b 26 2 (decide_eq_true ((show (↑vs.length:Int) > 0 from (by omega)))), .b 26 5 (beq_false_of_ne (hx)), .b 26 10 (decide_eq_true ((show (↑vs.length:Int) > 1 from (by omega)))), .b 26 13 (beq_false_of_ne (hy)), .b 26 19 (decide_eq_true ((show (↑vs.length:Int) > 2 from (by omega)))), .b 26 22 (beq_false_of_ne (hz)), .m 27 1 e3, .m 27 3 e8, .c 27 4 e12, .b 28 12 (decide_eq_true ((show (↑vs.length:Int) > 0 from (by omega)))), .b 28 20 (decide_eq_true ((show (↑vs.length:Int) > 0 from (by omega))))] (by kernel_rfl) (tlP (by kernel_rfl) rfl (shutT (v:=AV.bool true) (v':=AV.bool true) (by kernel_rfl))) rfl
theorem nfa_74 {m:Int} {v:Bs} {r:AV × List Blk} (h:(v,r) ∈ memoL):∀ fl hp,∃ p q hp',evI (cfg m) fl 74 [.str v] hp=some (.tup [.ptr p 0, .int .i64 q, .int .i64 0],hp'):=by
 intro fl hp
 have e:∃ p q hp',(shA hp.length r.1,hp++r.2.map (shB hp.length))=(AV.tup [.ptr p 0, .int .i64 q, .int .i64 0],hp'):=by
  unfold memoL at h
  simp only [List.mem_cons,List.not_mem_nil,or_false,Prod.mk.injEq] at h
  rcases h with ⟨_,rfl⟩ | ⟨_,rfl⟩ | ⟨_,rfl⟩ | ⟨_,rfl⟩ | ⟨_,rfl⟩ | ⟨_,rfl⟩ | ⟨_,rfl⟩ | ⟨_,rfl⟩ | ⟨_,rfl⟩ <;> exact ⟨_,_,_,rfl⟩
 have hm:(cfg m).memo 74 [.str v]=some r:=by
  show memo 74 [.str v]=some r
  unfold memoL at h
  simp only [List.mem_cons,List.not_mem_nil,or_false,Prod.mk.injEq] at h
  rcases h with ⟨rfl,rfl⟩ | ⟨rfl,rfl⟩ | ⟨rfl,rfl⟩ | ⟨rfl,rfl⟩ | ⟨rfl,rfl⟩ | ⟨rfl,rfl⟩ | ⟨rfl,rfl⟩ | ⟨rfl,rfl⟩ | ⟨rfl,rfl⟩ <;> rfl
 obtain ⟨p,q,hp',e⟩:=e
 refine ⟨p,q,hp',evI_of (k:=1) ?_⟩
 simp only [evCall,hm]
 exact congrArg some e
theorem name_nm {m:Int} {n:Bs} (h:n ∈ mNms):∀ fl hp,evI (cfg m) fl 31 [.str n] hp=some (.bool true,hp):=by
 intro fl hp
 simp only [mNms,List.mem_cons,List.not_mem_nil,or_false] at h
 rcases h with rfl | rfl | rfl <;> exact evI_of (k:=300) (by kernel_rfl)
theorem rm_ok {m:Int} {t:Mt} (h:Good t):∀ fl hp,evI (cfg m) fl 49 [mtA t] hp=some (.bool true,hp):=by
 obtain ⟨r,h⟩:=h
 obtain ⟨hn,rx,nt,q,ho,hv⟩:=mOf_of h
 have h74:=nfa_74 (m:=m) hv
 have hl:t.2.2.length≤256:=by
  unfold memoL at hv
  simp only [List.mem_cons,List.not_mem_nil,or_false,Prod.mk.injEq] at hv
  rcases hv with ⟨e,_⟩ | ⟨e,_⟩ | ⟨e,_⟩ | ⟨e,_⟩ | ⟨e,_⟩ | ⟨e,_⟩ | ⟨e,_⟩ | ⟨e,_⟩ | ⟨e,_⟩ <;> rw [e] <;> decide
 have h77:∀ fl hp,evI (cfg m) fl 77 [.agg [.str t.2.1, .str t.2.2],opL] hp=some (.bool true,hp):=by
  intro fl hp
  simp only [mOps,List.mem_cons,List.not_mem_nil,or_false,Prod.mk.injEq] at ho
  rcases ho with ⟨e,_⟩ | ⟨e,_⟩ | ⟨e,_⟩ | ⟨e,_⟩ <;> rw [e]
  ·exact ri_0 hl
  ·exact ri_1 hl
  ·exact ri_2 hl h74
  ·exact ri_3 hl h74
 exact fun fl hp=>rm_w fun fl hp=>fi_w (name_nm hn) h77
theorem ry_loop {m:Int} {fl:Nat} {hp:List Blk} {l:AV} {ts:List Mt} (hl:IsSl 3 l (ts.map mtA)) (hg:∀ t ∈ ts,Good t) (hN:ts.length≤2):∀ (d i:Nat),d + i=ts.length→LoopI (cfg m) fl 58 (bodyAt (cfg m) 58 2) 2 ⟨rySt l ts.length i,hp⟩ (.exit 0) ⟨List.replicate 19 J,hp⟩
 | 0,i,hd=>by
  obtain rfl:i=ts.length:=by omega
  exact ry_x
 | d + 1,i,hd=>by
  have hi:i < ts.length:=by omega
  have hc:(ts.map mtA)[i]?=some (mtA ts[i]):=by rw [List.getElem?_map,List.getElem?_eq_getElem hi];rfl
  have h1:=ry_i (m:=m) (fl:=fl) (hp:=hp) hl hc (by simpa using hi) (by simp;omega) fun fl hp=>rg_w (w:=true) fun fl hp=>rm_ok (hg _ (List.getElem_mem hi)) fl hp
  rw [List.length_map] at h1
  exact h1 _ _ (ry_loop hl hg hN d (i + 1) (by omega))
structure Po where
 n:Bs
 o:AV
 ps:List Mt
 A:Int
 B:Int
def Po.v (p:Po):AV:=plA p.n p.o p.A p.B
abbrev tnL:List Bs:=[[99],[97],[98]]
structure PoG (p:Po):Prop where
 n:p.n ∈ tnL
 o:MsV p.o p.ps
 l:p.ps.length≤2
 g:∀ t ∈ p.ps,Good t
 A:0≤p.A
 B:0≤p.B
theorem name_tn {m:Int} {n:Bs} (h:n ∈ tnL):∀ fl hp,evI (cfg m) fl 31 [.str n] hp=some (.bool true,hp):=by
 intro fl hp
 simp only [tnL,List.mem_cons,List.not_mem_nil,or_false] at h
 rcases h with rfl | rfl | rfl <;> exact evI_of (k:=300) (by kernel_rfl)
theorem right_ok {m:Int} {p:Po} (h:PoG p):∀ fl hp,evI (cfg m) fl 24 [p.v] hp=some (.bool true,hp):=fun fl hp =>
 rt_w (name_tn h.n) h.o.len h.l (fun fl hp=>rf_w fun fl=>ry_w h.o.isl fun fl=>by
  have:=ry_loop (m:=m) (fl:=fl) (hp:=hp) h.o.isl h.g h.l p.ps.length 0 rfl
  rwa [← List.length_map (f:=mtA)] at this) h.A h.B
def MoV (hp:List Blk) (o1:AV) (ps:List Mt):Prop:=(o1 = .nilS∧ps=[])∨∃ b,o1 = .arr 3 b 0 ps.length∧blkCells hp b=some (flat (ps.map mtA))∧ps≠[]
def EnV (hp:List Blk) (e:Bs × AV) (p:Po):Prop:=e.1=p.n∧∃ o1,e.2=plA p.n o1 p.A p.B∧MoV hp o1 p.ps
def EsV (hp:List Blk):List (Bs × AV)→List Po→Prop
 | [],[]=>True
 | e::es,p::ps=>EnV hp e p∧EsV hp es ps
 | _,_=>False
theorem EnV.mono {hp hp':List Blk} (h:FrC [] hp hp') {e:Bs × AV} {p:Po} (g:EnV hp e p):EnV hp' e p:=by
 obtain ⟨g1,o1,g2,g3⟩:=g
 refine ⟨g1,o1,g2, ?_⟩
 rcases g3 with g3 | ⟨b,k1,k2,k3⟩
 ·exact .inl g3
 ·exact .inr ⟨b,k1,h.2 _ _ (by simp) k2,k3⟩
theorem EsV.mono {hp hp':List Blk} (h:FrC [] hp hp'):∀ {es:List (Bs × AV)} {ps:List Po},EsV hp es ps→EsV hp' es ps
 | [],[],_=>trivial
 | _::_,_::_,g=>⟨g.1.mono h,EsV.mono h g.2⟩
 | [],_::_,g=>g.elim
 | _::_,[],g=>g.elim
theorem EsV.snoc {hp:List Blk} {e:Bs × AV} {p:Po} (h:EnV hp e p):∀ {es:List (Bs × AV)} {ps:List Po},EsV hp es ps→EsV hp (es++[e]) (ps++[p])
 | [],[],_=>⟨h,trivial⟩
 | _::_,_::_,g=>⟨g.1,EsV.snoc h g.2⟩
 | [],_::_,g=>g.elim
 | _::_,[],g=>g.elim
theorem EsV.none {hp:List Blk} {s:Bs}:∀ {es:List (Bs × AV)} {ps:List Po},EsV hp es ps→s ∉ ps.map Po.n→getM s es=none
 | [],[],_,_=>rfl
 | (j,v)::es,p::ps,g,h=>by
  unfold getM
  have e1:j=p.n:=g.1.1
  have:(j==s)=false:=beq_false_of_ne fun e=>h (by simp [← e,e1])
  rw [this,cond_false rfl]
  exact EsV.none g.2 fun hh=>h (List.mem_cons_of_mem _ hh)
 | [],_::_,g,_=>g.elim
 | _::_,[],g,_=>g.elim
theorem EsV.some {hp:List Blk} {s:Bs}:∀ {es:List (Bs × AV)} {ps:List Po},EsV hp es ps→s ∈ ps.map Po.n→∃ p ∈ ps,p.n=s∧∃ o1,getM s es=some (plA s o1 p.A p.B)∧MoV hp o1 p.ps
 | [],[],_,h=>by cases h
 | (j,v)::es,p::ps,g,h=>by
  unfold getM
  by_cases e:j=s
  ·obtain ⟨g1,o1,g2,g3⟩:=g.1
   have g2:v=plA p.n o1 p.A p.B:=g2
   have g1:j=p.n:=g1
   refine ⟨p,List.mem_cons_self,by rw [← g1,e],o1, ?_,g3⟩
   rw [show (j==s)=true by simpa using e,cond_true rfl,g2,← g1,e]
  ·have h':s ∈ ps.map Po.n:=by
    rcases List.mem_cons.1 h with h | h
    ·exact absurd (g.1.1.trans h.symm) e
    ·exact h
   obtain ⟨q,q1,q2⟩:=EsV.some g.2 h'
   refine ⟨q,List.mem_cons_of_mem _ q1, ?_⟩
   rw [beq_false_of_ne e,cond_false rfl]
   exact q2
 | [],_::_,g,_=>g.elim
 | _::_,[],g,_=>g.elim
theorem clone_ok {m:Int} {p:Po} (h:PoG p) (fl:Nat) (hp:List Blk):∃ o1 hp1,evI (cfg m) fl 26 [p.o] hp=some (o1,hp1)∧MoV hp1 o1 p.ps∧∃ l,hp1=hp++l:=by
 rcases h.o with ⟨e,e2⟩ | ⟨ow,e,hz⟩
 ·rw [e];exact ⟨.nilS,hp,co_nil, .inl ⟨rfl,e2⟩,[],by simp⟩
 ·rw [e]
  have:=h.l
  obtain ⟨hp',e1,e2,e3,e4⟩:=co_lit (m:=m) (fl:=fl) (n0:=0) (hp:=hp) (ow:=ow) (ws:=p.ps.map mtA) (by simp [elems]) agg_m (by simpa using hz) (by simp;omega) (Nat.zero_le _)
  rw [List.length_map] at e1
  exact ⟨_,hp',e1, .inr ⟨_,rfl,by rw [e4];exact blk_last,hz⟩,_,e4⟩
theorem nw_loop {m:Int} {L:List Po} (hG:∀ p ∈ L,PoG p) (hN:L.length < 1000000) {l:AV} (hl:IsSl 4 l (L.map Po.v)) {fl pb mb K:Nat} (hK:K≤L.length) (hd:((L.take K).map Po.n).Nodup) (hf:fl≤mb):∀ (d i:Nat) (hp:List Blk) (es:List (Bs × AV)),d + i=K→blkCells hp pb=some [.mpr mb]→blkObj hp mb=some (.mp es)→EsV hp es (L.take i) →
  ∃ hp' es',(∀ e st,LoopI (cfg m) fl 10 (bodyAt (cfg m) 10 3) 3 ⟨nwSt l pb L.length K,hp'⟩ e st→LoopI (cfg m) fl 10 (bodyAt (cfg m) 10 3) 3 ⟨nwSt l pb L.length i,hp⟩ e st)∧blkCells hp' pb=some [.mpr mb]∧blkObj hp' mb=some (.mp es')∧EsV hp' es' (L.take K)∧FrC [] hp hp'
 | 0,i,hp,es,he,h1,h2,h3=>by
  obtain rfl:i=K:=by omega
  exact ⟨hp,es,fun _ _ h=>h,h1,h2,h3, .refl _ _⟩
 | d + 1,i,hp,es,he,h1,h2,h3=>by
  have hi:i < L.length:=by omega
  have hp0:=hG L[i] (List.getElem_mem hi)
  have hc:(L.map Po.v)[i]?=some (plA L[i].n L[i].o L[i].A L[i].B):=by rw [List.getElem?_map,List.getElem?_eq_getElem hi];rfl
  have hnd:L[i].n ∉ (L.take i).map Po.n:=by
   intro hh
   have e1:L.take K=L.take i++L[i]::(L.take K).drop (i + 1):=by
    have:(L.take K).take i=L.take i:=by rw [List.take_take];congr 1;omega
    rw [← this]
    conv=>lhs;rw [← List.take_append_drop i (L.take K)]
    congr 1
    rw [List.drop_eq_getElem_cons (by simp;omega)]
    simp
   rw [e1,List.map_append,List.nodup_append] at hd
   exact hd.2.2 _ hh _ (by simp) rfl
  have hg:=h3.none hnd
  obtain ⟨o1,hp1,k1,k2,l',k3⟩:=clone_ok (m:=m) hp0 fl hp
  have b1:blkCells hp1 pb=some [.mpr mb]:=by rw [k3];exact blk_app h1
  have b2:blkObj hp1 mb=some (.mp es):=by rw [k3];exact blkObj_app h2
  have f1:FrC [] hp hp1:=by rw [k3];exact .app _ _ _
  have hr:∀ fl hp,evI (cfg m) fl 24 [plA L[i].n L[i].o L[i].A L[i].B] hp=some (.bool true,hp):=right_ok hp0
  have step:LoopS (cfg m) fl 10 (bodyAt (cfg m) 10 3) 3 ⟨nwSt l pb (L.map Po.v).length i,hp⟩ ⟨nwSt l pb (L.map Po.v).length (i + 1),setAt hp1 mb (.obj (.mp (es++[(L[i].n,plA L[i].n o1 L[i].A L[i].B)])))⟩:=by
   rcases k2 with ⟨rfl,_⟩ | ⟨b,rfl,_⟩
   ·exact nw_in hl hc (by simpa using hi) (by simpa using hN) h1 h2 hg hr k1 b1 b2 hf
   ·exact nw_ia hl hc (by simpa using hi) (by simpa using hN) h1 h2 hg hr k1 b1 b2 hf
  rw [List.length_map] at step
  have f2:FrC [] hp1 (setAt hp1 mb (.obj (.mp (es++[(L[i].n,plA L[i].n o1 L[i].A L[i].B)])))) := .obj b2
  have et:L.take (i + 1)=L.take i++[L[i]]:=by rw [List.take_add_one,List.getElem?_eq_getElem hi];rfl
  have hE:EsV (setAt hp1 mb (.obj (.mp (es++[(L[i].n,plA L[i].n o1 L[i].A L[i].B)])))) (es++[(L[i].n,plA L[i].n o1 L[i].A L[i].B)]) (L.take (i + 1)):=by
   rw [et]
   exact ((h3.mono (f1.trans f2))).snoc (EnV.mono f2 ⟨rfl,o1,rfl,k2⟩)
  obtain ⟨hp',es',g1,g2⟩:=nw_loop hG hN hl hK hd hf d (i + 1) _ _ (by omega) (f2.2 _ _ (by simp) b1) (blkObj_set (blkObj_lt b2)) hE
  exact ⟨hp',es',fun e st h=>step _ _ (g1 e st h),g2.1,g2.2.1,g2.2.2.1,(f1.trans f2).trans g2.2.2.2⟩
theorem new_ok {m:Int} {L:List Po} (hG:∀ p ∈ L,PoG p) (hN:L.length < 1000000) {l:AV} (hl:IsSl 4 l (L.map Po.v)) (hd:(L.map Po.n).Nodup) (hp:List Blk):∃ pb mb hp' es,(∀ fl,evI (cfg m) fl 10 [l] hp=some (.tup [.ptr pb 0, .int .i64 0],hp'))∧blkCells hp' pb=some [.mpr mb]∧blkObj hp' mb=some (.mp es)∧EsV hp' es L:=by
 have e0:(hp++[Blk.obj (.mp [])]++[.cells [.mpr hp.length]])=hp++[Blk.obj (.mp []), .cells [.mpr hp.length]]:=by simp
 obtain ⟨hp',es',g1,g2,g3,g4,_⟩:=nw_loop (m:=m) (fl:=hp.length) (pb:=(hp++[Blk.obj (.mp [])]).length) (mb:=hp.length) hG hN hl (Nat.le_refl _) (by rwa [List.take_length]) (Nat.le_refl _) L.length 0 (hp++[Blk.obj (.mp [])]++[.cells [.mpr hp.length]]) [] rfl blk_last (blkObj_app blkObj_last) trivial
 rw [List.take_length] at g4
 have h1:=g1 _ _ nw_x
 rw [← List.length_map (f:=Po.v)] at h1
 exact ⟨_,_,hp',es',fun fl=>nw_ok hl h1,g2,g3,g4⟩
theorem new_no {m:Int} {L:List Po} (hG:∀ p ∈ L,PoG p) (hN:L.length < 500000) {l:AV} (hl:IsSl 4 l ((L++L).map Po.v)) (hd:(L.map Po.n).Nodup) (h0:0 < L.length) (hp:List Blk):∃ hp',∀ fl,evI (cfg m) fl 10 [l] hp=some (.tup [.nilP, .int .i64 1],hp'):=by
 have hG2:∀ p ∈ L++L,PoG p:=fun p hp=>by rcases List.mem_append.1 hp with h | h <;> exact hG p h
 have ht:(L++L).take L.length=L:=by simp
 obtain ⟨hp',es',g1,g2,g3,g4,_⟩:=nw_loop (m:=m) (fl:=hp.length) (pb:=(hp++[Blk.obj (.mp [])]).length) (mb:=hp.length) (K:=L.length) hG2 (by simp;omega) hl (by simp) (by rwa [ht]) (Nat.le_refl _) L.length 0 (hp++[Blk.obj (.mp [])]++[.cells [.mpr hp.length]]) [] rfl blk_last (blkObj_app blkObj_last) trivial
 rw [ht] at g4
 have hi:L.length < (L++L).length:=by simp;omega
 have hc:((L++L).map Po.v)[L.length]?=some (plA L[0].n L[0].o L[0].A L[0].B):=by
  rw [List.getElem?_map,List.getElem?_append_right (Nat.le_refl _),Nat.sub_self,List.getElem?_eq_getElem h0];rfl
 obtain ⟨q,_,_,o1,hq,_⟩:=g4.some (s:=L[0].n) (List.mem_map.2 ⟨_,List.getElem_mem h0,rfl⟩)
 have h1:=nw_b (m:=m) (fl:=hp.length) hl hc (by simpa using h0) (by simp;omega) g2 g3 hq
 rw [List.length_map] at h1
 have h2:=g1 _ _ h1
 rw [← List.length_map (f:=Po.v)] at h2
 exact ⟨hp',fun fl=>nw_no hl h2⟩
theorem app_3n {C:Cfg} {fl n:Nat} {hp:List Blk} {x y:AV} {vs ws:List AV} {t:TypeId} (h:Gr n 3 hp x vs) (hfn:fl≤n) (hn:n≤hp.length) (hy:elems hp 3 y=some ws) (ht:elT C t 3 48=true) (hw:ws≠[]) (hl:(vs.length + ws.length) * 48≤140737488355328) :
  ∃ g hp',(∀ ts,builtinE C fl false ⟨ts,hp⟩ .append [t,t] [x,y]=some ⟨.v (.lit 3 (.fam g 0) (vs++ws)),ts,hp',bif isArr y then .hw else .fw⟩)∧Gr n 3 hp' (.lit 3 (.fam g 0) (vs++ws)) (vs++ws)∧FrC [] hp hp'∧PreN n hp hp':=append_gn h hfn hn hy ht hw hl
theorem ru_j {m:Int} {fl i n0:Nat} {hp:List Blk} {s0 n x y z a b c:List UInt8} {l0 l o:AV} {a0 b0 k A B q:Int} {w:Bool} {hs ms:List AV} (hl:IsSl 5 l hs) (hc:hs[i]?=some (.agg [.str a, .str b, .str c, .bool w, .int .u8 q])) (hi:i < hs.length) (hi2:i < 2) (hh:∀ (fl:Nat) (hp:List Blk),evI (cfg m) fl 25 [.agg [.str a, .str b, .str c, .bool true, .int .u8 q]] hp=some (.agg [.str x, .str y, .str z],hp)) (ho:Gr n0 3 hp o ms) (hlen:(ms.length + [AV.agg [.str x, .str y, .str z]].length) * 48≤140737488355328) (hf:fl≤n0) (hn:n0≤hp.length):∃ hp' g,LoopS (cfg m) fl 9 (bodyAt (cfg m) 9 8) 8 ⟨ruSt (ruB s0 l0 a0 b0 k l) n o A B i,hp⟩ ⟨ruSt (ruB s0 l0 a0 b0 k l) n (.lit 3 (.fam g 0) (ms++[.agg [.str x, .str y, .str z]])) A B (i + 1),hp'⟩∧Gr n0 3 hp' (.lit 3 (.fam g 0) (ms++[.agg [.str x, .str y, .str z]])) (ms++[.agg [.str x, .str y, .str z]])∧PreN n0 hp hp':=by
 obtain ⟨g1,hp'2,e3,h4,h5,h6⟩:=(app_3n (C:=cfg m) (y:=AV.lit 3 Own.exact [AV.agg [AV.str x,AV.str y,AV.str z]]) (t:=25) ho hf hn (by kernel_rfl) (by kernel_rfl) (by simp_all;done) hlen)
 exact ⟨hp'2,_,loopStepS (St.mk [J,TV.bx [AV.str s0,l0,AI a0,AI b0,AV.bool true,AU k,l],TV.bx [AV.str [],AV.nilS,AI 0,AI 0],TV.bx [AV.str n,AV.lit 3 (Own.fam g1 0) (ms++[AV.agg [AV.str x,AV.str y,AV.str z]]),AI A,AI B],TV.v (AI ((↑i:Int) + 1)),J,J,J,J,J,J,J,J,J,J,J,J,J,J,J,J,J,J,J,J,J,J,J,J,J,J,J,J,J,J,J,J,J,J,J,J,J,J,J,J,J,J,J,J,J,J,J,J,J,J,J,J] hp'2) [.m 8 3 (len_sl (C:=cfg m) (t:=28) (ts':=[]) (fl:=fl) (ar:=false) (hp:=hp) hl (by kernel_rfl)), .b 8 4 (decide_eq_true ((show (↑i:Int) < (↑hs.length:Int) from (by omega)))), .b 8 7 (decide_eq_true ((show (↑i:Int) < 2 from (by omega)))), .a 10 3 (indexAddr_sl (C:=cfg m) (t:=28) (n:=(↑i:Int)) hl (by kernel_rfl) (by omega) hc), .c 12 3 (hh (fl) (hp)), .m 12 5 e3, .w 9 1 IntKind.i64 ((↑i:Int) + 1) (wrap_i64' (by omega))] (by kernel_rfl) rfl,by assumption,by assumption⟩
theorem wrap_v {q:Int}:IntKind.u8.wrap q < 256:=by
 unfold IntKind.wrap
 simp [IntKind.signed,IntKind.bits]
 omega
theorem ru_gn {m:Int} {n0:Nat} {s0 n:Bs} {l0 l:AV} {a0 b0 k A B:Int} {hs:List AV} (hl:IsSl 5 l hs) (hh:Hs hs):∀ (d i:Nat) (hp:List Blk) (o:AV) (ms:List Mt),d + i=2→Gr n0 3 hp o (ms.map mtA)→MsV o ms→ms.length=i→(∀ t ∈ ms,Good t)→n0≤hp.length →
  ∃ o' hp' ts,LoopI (cfg m) 0 9 (bodyAt (cfg m) 9 8) 8 ⟨ruSt (ruB s0 l0 a0 b0 k l) n o A B i,hp⟩ (.exit 0) ⟨ruEnd n o' A B,hp'⟩∧MsV o' ts∧ts.length≤2∧(∀ t ∈ ts,Good t)∧PreN n0 hp hp'
 | 0,i,hp,o,ms,hd,ho,hv,hm,hg,hn=>⟨o,hp,ms,ru_x hl (by omega) (by omega),hv,by omega,hg, .refl _ _⟩
 | d + 1,i,hp,o,ms,hd,ho,hv,hm,hg,hn=>by
  rcases Nat.lt_or_ge i hs.length with hi | hi
  ·obtain ⟨a,b,c,w,q,he,hq⟩:=hh hs[i] (List.getElem_mem hi)
   obtain ⟨t,ht,hw⟩:=ha_good (m:=m) (a:=a) (b:=b) (c:=c) hq
   obtain ⟨hp',g,h1,h2,h3⟩:=ru_j (m:=m) (s0:=s0) (n:=n) (l0:=l0) (a0:=a0) (b0:=b0) (k:=k) (A:=A) (B:=B) hl (by rw [List.getElem?_eq_getElem hi,he]) hi (by omega) hw ho (by simp only [List.length_cons,List.length_nil,List.length_map];omega) (Nat.zero_le _) hn
   have e:ms.map mtA++[mtA t]=(ms++[t]).map mtA:=by simp
   rw [e] at h1 h2
   obtain ⟨o',hp'',ts,h4,h5,h6,h7,h8⟩:=ru_gn hl hh d (i + 1) hp' _ (ms++[t]) (by omega) h2 (.inr ⟨_,rfl,by simp⟩) (by simp [hm]) (fun u hu=>by
    rcases List.mem_append.1 hu with hu | hu
    ·exact hg u hu
    ·obtain rfl:u=t:=by simpa using hu
     exact ht) (Nat.le_trans hn h3.1)
   exact ⟨o',hp'',ts,h1 _ _ h4,h5,h6,h7,h3.trans h8⟩
  ·exact ⟨o,hp,ms,ru_x hl (.inl hi) (by omega),hv,by omega,hg, .refl _ _⟩
theorem rule_at {m:Int} {hp:List Blk} {s0:Bs} {l0 l:AV} {a0 b0 k:Int} {hs:List AV} (hl:IsSl 5 l hs) (hh:Hs hs) (hk:0≤k):∃ n o A B hp' ts,evI (cfg m) 0 9 [.agg [.str s0,l0, .int .i64 a0, .int .i64 b0, .bool true, .int .u8 k,l]] hp=some (plA n o A B,hp')∧MsV o ts∧ts.length≤2∧(∀ t ∈ ts,Good t)∧0≤A∧0≤B∧PreN hp.length hp hp':=by
 obtain ⟨i,h1,h2⟩:=tmod_u 3 hk (by decide)
 have hn:(tnS.map AV.str)[i]?=some (AV.str tnS[i]):=by rw [List.getElem?_map,List.getElem?_eq_getElem h2];rfl
 by_cases h:k≥200
 ·obtain ⟨o',hp',ts,h4,h5,h6,h7,h8⟩:=ru_gn (m:=m) (n0:=hp.length) (s0:=s0) (n:=tnS[i]) (l0:=l0) (a0:=a0) (b0:=b0) (k:=k) (A:=1000) (B:=1099511627776) hl hh 2 0 hp .nilS [] rfl (.nil _ _ _) (.inl ⟨rfl,rfl⟩) rfl (by simp) (Nat.le_refl _)
  exact ⟨_,_,_,_,_,ts,ru_hi h h1 h2 hn h4,h5,h6,h7,by decide,by decide,h8⟩
 ·obtain ⟨o',hp',ts,h4,h5,h6,h7,h8⟩:=ru_gn (m:=m) (n0:=hp.length) (s0:=s0) (n:=tnS[i]) (l0:=l0) (a0:=a0) (b0:=b0) (k:=k) (A:=IntKind.i64.wrap (Int.tmod (IntKind.u8.wrap (Int.tdiv k 3)) 30)) (B:=IntKind.i64.wrap (IntKind.u8.wrap (Int.tdiv k 2))) hl hh 2 0 hp .nilS [] rfl (.nil _ _ _) (.inl ⟨rfl,rfl⟩) rfl (by simp) (Nat.le_refl _)
  refine ⟨_,_,_,_,_,ts,ru_lo h h1 h2 hn h4,h5,h6,h7, ?_, ?_,h8⟩
  ·obtain ⟨j,e,hj⟩:=tmod_u 30 (wrap_u (q:=Int.tdiv k 3)) (by decide)
   have e:Int.tmod (IntKind.u8.wrap (Int.tdiv k 3)) 30=(j:Int):=e
   rw [e,wrap_i64 (by omega) (by omega)];omega
  ·have a:=wrap_u (q:=Int.tdiv k 2)
   have b:=wrap_v (q:=Int.tdiv k 2)
   rw [wrap_i64 (by omega) (by omega)];exact a
def RsA (rs:List AV):Prop:=∀ x ∈ rs,∃ (s0:Bs) (l0 l:AV) (a0 b0 k:Int) (w:Bool) (hs:List AV),x = .agg [.str s0,l0, .int .i64 a0, .int .i64 b0, .bool w, .int .u8 k,l]∧IsSl 5 l hs∧Hs hs∧0≤k
theorem tt_loop {m:Int} {l:AV} {s:Bs} {rs:List AV} (hl:IsSl 7 l rs) (hr:RsA rs):∀ (d i:Nat) (hp:List Blk) (al:AV) (L:List Po),d + i=3→i≤rs.length→Gr 0 4 hp al (L.map Po.v)→L.length=i→L.map Po.n=tnL.take i→(∀ p ∈ L,PoG p)→((al = .nilS∧i=0)∨∃ g,al = .lit 4 (.fam g 0) (L.map Po.v)∧0 < i) →
  ∃ hp' al' L',LoopI (cfg m) 0 3 (bodyAt (cfg m) 3 6) 6 ⟨ttSt l s al i,hp⟩ (.exit 0) ⟨ttEnd s al',hp'⟩∧L'.length≤3∧L'.map Po.n=tnL.take L'.length∧(∀ p ∈ L',PoG p)∧((al' = .nilS∧L'=[])∨∃ g,al' = .lit 4 (.fam g 0) (L'.map Po.v)∧0 < L'.length)
 | 0,i,hp,al,L,hd,hi,ho,hL,hn,hG,ha=>by
  obtain rfl:i=3:=by omega
  refine ⟨hp,al,L,tt_x hl (.inr (Nat.le_refl _)) (Nat.le_refl _),by omega,by rw [hL];exact hn,hG, ?_⟩
  rcases ha with ⟨_,h⟩ | ⟨g,h,_⟩
  ·cases h
  ·exact .inr ⟨g,h,by omega⟩
 | d + 1,i,hp,al,L,hd,hi,ho,hL,hn,hG,ha=>by
  rcases Nat.lt_or_ge i rs.length with hi | hi
  ·obtain ⟨s0,l0,lm,a0,b0,k,w,hs,he,h1,h2,h3⟩:=hr rs[i] (List.getElem_mem hi)
   obtain ⟨n,o,A,B,hp1,ts,r1,r2,r3,r4,r5,r6,r7⟩:=rule_at (m:=m) (hp:=hp) (s0:=s0) (l0:=l0) (a0:=a0) (b0:=b0) h1 h2 h3
   have hi3:i < tnL.length:=by simp only [tnL,List.length_cons,List.length_nil];omega
   have hnm:([.str [99], .str [97], .str [98]]:List AV)[i]?=some (.str tnL[i]):=by
    show (tnL.map AV.str)[i]?=_
    rw [List.getElem?_map,List.getElem?_eq_getElem hi3];rfl
   obtain ⟨hp',g,g1,g2,g3⟩:=tt_i (m:=m) (s:=s) (w:=w) hl (by rw [List.getElem?_eq_getElem hi,he]) hi (by omega) r1 hnm (ho.pre r7 (Nat.le_refl _)) (by simp;omega)
   have e:L.map Po.v++[plA tnL[i] o A B]=(L++[(⟨tnL[i],o,ts,A,B⟩:Po)]).map Po.v:=by simp [Po.v]
   rw [e] at g1 g2
   obtain ⟨hp'',al',L',k1,k2⟩:=tt_loop (m:=m) (s:=s) hl hr d (i + 1) hp' _ (L++[(⟨tnL[i],o,ts,A,B⟩:Po)]) (by omega) (by omega) g2 (by simp [hL]) (by
    rw [List.map_append,hn,List.take_add_one,List.getElem?_eq_getElem hi3];rfl) (fun p hp=>by
    rcases List.mem_append.1 hp with h | h
    ·exact hG p h
    ·obtain rfl:p=⟨tnL[i],o,ts,A,B⟩:=by simpa using h
     exact ⟨List.getElem_mem hi3,r2,r3,r4,r5,r6⟩) (.inr ⟨g,rfl,by omega⟩)
   exact ⟨hp'',al',L',g1 _ _ k1,k2⟩
  ·refine ⟨hp,al,L,tt_x hl (.inl hi) (by omega),by omega,by rw [hL];exact hn,hG, ?_⟩
   rcases ha with ⟨h,h'⟩ | h
   ·exact .inl ⟨h,List.eq_nil_of_length_eq_zero (by omega)⟩
   ·obtain ⟨g,h,h'⟩:=h
    exact .inr ⟨g,h,by omega⟩
theorem shut_pl {hp:List Blk} {k d:Nat} {n:Bs} {A B:Int} {x y:AV} (h:shutV hp k (d + 1) x=some y):shutV hp k (d + 3) (.tup [plA n x A B, .int .i64 0])=some (.tup [plA n y A B, .int .i64 0]):=by
 have n1:shutV hp k (d + 1) (.str n)=some (.str n):=rfl
 have n2:shutV hp k (d + 2) (.int .i64 0)=some (.int .i64 0):=rfl
 have n3:shutV hp k (d + 1) (.int .i64 A)=some (.int .i64 A):=rfl
 have n4:shutV hp k (d + 1) (.int .i64 B)=some (.int .i64 B):=rfl
 have e1:shutV hp k (d + 2) (plA n x A B)=some (plA n y A B):=by
  show (mapO (shutV hp k (d + 1)) [.str n,x, .int .i64 A, .int .i64 B]).map AV.agg=_
  simp only [mapO,h,n1,n3,n4,Option.map]
 show (mapO (shutV hp k (d + 2)) [plA n x A B, .int .i64 0]).map AV.tup=_
 simp only [mapO,e1,n2,Option.map]
theorem of_yes {m:Int} {pb mb:Nat} {hp:List Blk} {s:Bs} {es:List (Bs × AV)} {L:List Po} (hG:∀ p ∈ L,PoG p) (hc:cloH hp.length hp=true) (hq:blkCells hp pb=some [.mpr mb]) (hm:blkObj hp mb=some (.mp es)) (hE:EsV hp es L) (hs:s ∈ L.map Po.n):∃ p ∈ L,p.n=s∧∃ w,(∀ fl,evI (cfg m) fl 12 [.ptr pb 0, .str s] hp=some (.tup [plA s w p.A p.B, .int .i64 0],hp))∧LenS m w p.ps.length:=by
 obtain ⟨p,hp0,hn,o1,hg,hv⟩:=hE.some hs
 refine ⟨p,hp0,hn, ?_⟩
 rcases hv with ⟨rfl,e⟩ | ⟨b,rfl,hb,hz⟩
 ·exact ⟨.nilS,fun fl=>ot_n hc hq hm hg,by rw [e];exact MsV.len (ps:=[]) (.inl ⟨rfl,rfl⟩)⟩
 ·have hl:=(hG p hp0).l
  have hy:elems hp 3 (.arr 3 b 0 p.ps.length)=some (p.ps.map mtA):=by
   have:=RowN.elems (n:=0) (hp:=hp) (x := .arr 3 b 0 (p.ps.map mtA).length) (.inr ⟨b,rfl,hb,Nat.zero_le _,agg_m⟩) (by decide)
   rwa [List.length_map] at this
  obtain ⟨hp',e1,e2,e3,e4⟩:=co_arr (m:=m) (fl:=hp.length) (n0:=hp.length) (hp:=hp) hy agg_m (by simpa using hz) (by simp;omega) (Nat.le_refl _)
  rw [List.length_map] at e1
  have hcl:∀ fl,evI (cfg m) fl 26 [.arr 3 b 0 p.ps.length] hp=some (.arr 3 hp.length 0 p.ps.length,hp'):=fun fl=>by
   obtain ⟨hp'',e1,e2,e3,e4'⟩:=co_arr (m:=m) (fl:=fl) (n0:=hp.length) (hp:=hp) hy agg_m (by simpa using hz) (by simp;omega) (Nat.le_refl _)
   rw [List.length_map] at e1
   rw [e1,e4',← e4]
  have hr:RowT hp.length 3 hp' (.arr 3 hp.length 0 p.ps.length) (p.ps.map mtA) := .inr ⟨hp.length,[],by simp,by rw [e4];simpa using blk_last,Nat.le_refl _,agg_m⟩
  have hsh:=shut_rowP (k:=hp.length) (D:=99997) hr (by decide) (fun v hv=>by obtain ⟨t,_,rfl⟩:=List.mem_map.1 hv;exact shut_m) (Nat.le_refl _)
  have hz2:p.ps.map mtA≠[]:=by simpa using hz
  exact ⟨_,fun fl=>ot_a hc hq hm hg hcl (by rw [e4];simp) (shut_pl (d:=99997) hsh),by
   have:=(lenS_lit (m:=m) (ow := .sealed) (xs:=p.ps.map mtA)).1
   rwa [List.length_map] at this⟩
theorem of_none {m:Int} {pb mb:Nat} {hp:List Blk} {s:Bs} {es:List (Bs × AV)} {L:List Po} (hc:cloH hp.length hp=true) (hq:blkCells hp pb=some [.mpr mb]) (hm:blkObj hp mb=some (.mp es)) (hE:EsV hp es L) (hs:s ∉ L.map Po.n):∀ fl,evI (cfg m) fl 12 [.ptr pb 0, .str s] hp=some (.tup [plA [] .nilS 0 0, .int .i64 6],hp):=fun fl=>ot_0 hc hq hm (hE.none hs)
theorem clo_argSl {sz:Nat} {x:AV} {xs:List AV} (h:ArgSl sz x xs) (hx:∀ y ∈ xs,cloA 0 y=true):cloA 0 x=true:=by
 rcases h with ⟨rfl,_⟩ | rfl
 ·rfl
 ·rw [cloA,Bool.and_eq_true]
  exact ⟨rfl,cloAs_mem.2 hx⟩
theorem clo22 {l:AV} (h:Sh (cfg 0) 8 22 l):cloA 0 l=true:=by
 obtain ⟨xs,h1,h2⟩:=sh22 h
 refine clo_argSl h1 fun y hy => ?_
 obtain ⟨s1,x2,x2s,n3,n4,b5,n6,x7,x7s,rfl,_,⟨h3,h3'⟩,_,_,_,h4,h4'⟩:=sh30 (h2 y hy)
 have a:cloA 0 x2=true:=clo_argSl h3 fun z hz=>by
  obtain ⟨_,_,_,rfl,_⟩:=sh68 (h3' z hz);rfl
 have b:cloA 0 x7=true:=clo_argSl h4 fun z hz=>by
  obtain ⟨_,_,_,_,_,rfl,_⟩:=sh70 (h4' z hz);rfl
 simp [cloA,cloAs,a,b]
theorem rs_of {rs:List AV} (h:∀ y ∈ rs,Sh (cfg 0) 7 30 y):RsA rs:=fun y hy=>by
 obtain ⟨s1,x2,x2s,n3,n4,b5,n6,x7,x7s,rfl,_,_,_,_,hk,h4,h4'⟩:=sh30 (h y hy)
 refine ⟨s1,x2,x7,n3,n4,n6,b5,x7s,rfl,h4.isSl,fun z hz => ?_,hk.1⟩
 obtain ⟨a,b,c,w,q,rfl,_,_,_,hq⟩:=sh70 (h4' z hz)
 exact ⟨a,b,c,w,q,rfl,hq.1⟩
theorem new_cl {m:Int} {L:List Po} {l:AV} {hp hp':List Blk} {v:AV} (h:evI (cfg m) 0 10 [l] hp=some (v,hp')) (hl:cloA hp.length l=true) (hh:cloH hp.length hp=true):cloH hp'.length hp'=true:=(evI_c (good m) h (by rw [cloAs,cloAs,hl];rfl) hh).2.1
theorem nd_eq:∀ {L:List Po} {p q:Po},(L.map Po.n).Nodup→p ∈ L→q ∈ L→p.n=q.n→p=q
 | [],_,_,_,h,_,_=>by cases h
 | x::L,p,q,hd,hp,hq,e=>by
  rw [List.map_cons,List.nodup_cons] at hd
  rcases List.mem_cons.1 hp with rfl | h1 <;> rcases List.mem_cons.1 hq with rfl | h2
  ·rfl
  ·exact absurd (List.mem_map.2 ⟨q,h2,e.symm⟩) hd.1
  ·exact absurd (List.mem_map.2 ⟨p,h1,e⟩) hd.1
  ·exact nd_eq hd.2 h1 h2 e
theorem of_p {m:Int} {pb mb:Nat} {hp:List Blk} {es:List (Bs × AV)} {L:List Po} (hG:∀ p ∈ L,PoG p) (hd:(L.map Po.n).Nodup) (hc:cloH hp.length hp=true) (hq:blkCells hp pb=some [.mpr mb]) (hm:blkObj hp mb=some (.mp es)) (hE:EsV hp es L) {p:Po} (h0:p ∈ L):∃ w,(∀ fl,evI (cfg m) fl 12 [.ptr pb 0, .str p.n] hp=some (.tup [plA p.n w p.A p.B, .int .i64 0],hp))∧LenS m w p.ps.length:=by
 obtain ⟨q,q1,q2,w,q3,q4⟩:=of_yes (m:=m) hG hc hq hm hE (List.mem_map.2 ⟨p,h0,rfl⟩)
 obtain rfl:=nd_eq hd q1 h0 q2
 exact ⟨w,q3,q4⟩
theorem rop_o {m:Int} {o:AV} {ps:List Mt} (h:MsV o ps):RopS m o:=by
 rcases h with ⟨rfl,_⟩ | ⟨ow,rfl,_⟩
 ·exact rop_nil
 ·exact rop_lit
theorem ex8 {m:Int}:∀ fl,evI (cfg m) fl 8 [] []=some (.bool true,[]):=fun fl=>evI_fl (.inl rfl) ex0
theorem app_vv {L:List Po} {o:Own}:IsSl 4 (.lit 4 o (L.map Po.v++L.map Po.v)) ((L++L).map Po.v):=by
 rw [List.map_append];exact .lit _ _ _
theorem names0:extNames [.obj (.mp [])] [.mpr 0]=some (.nilS):=by kernel_rfl
theorem names1 {v0:AV}:extNames [.obj (.mp [([99],v0)])] [.mpr 0]=some (.lit 1 .sealed [.str [99]]):=by kernel_rfl
theorem names2 {v0 v1:AV}:extNames [.obj (.mp [([99],v0),([97],v1)])] [.mpr 0]=some (.lit 1 .sealed [.str [97], .str [99]]):=by kernel_rfl
theorem names3 {v0 v1 v2:AV}:extNames [.obj (.mp [([99],v0),([97],v1),([98],v2)])] [.mpr 0]=some (.lit 1 .sealed [.str [97], .str [98], .str [99]]):=by kernel_rfl
theorem table_0 {l:AV} {s:Bs} {rs:List AV} {hp1:List Blk} (hl:IsSl 7 l rs) (hlp:LoopI (cfg 0) 0 3 (bodyAt (cfg 0) 3 6) 6 ⟨ttSt l s .nilS 0,[]⟩ (.exit 0) ⟨ttEnd s .nilS,hp1⟩) (hG:∀ p ∈ ([]:List Po),PoG p)  (hc:cloH hp1.length hp1=true) (ha:cloA hp1.length .nilS=true):evI (cfg 0) 0 3 [l, .str s] []=some (.bool true,[]):=by
 have hm:([]:List Po).map Po.n=[]:=by simp []
 have hd:(([]:List Po).map Po.n).Nodup:=by rw [hm];decide
 obtain ⟨pb,mb,hp2,es,w1,w2,w3,w4⟩:=new_ok (m:=0) (L:=[]) hG (by simp) (l := .nilS) (.nil _) hd hp1
 have hc2:=new_cl (L:=[]) (w1 0) ha hc
 match es,w4 with
 | [],w4 =>
  have hnm:∀ fl,evI (cfg 0) fl 11 [.mpr mb] hp2=some (.nilS,hp2):=fun fl=>names_ok w3 names0
  have hns:IsSl 1 .nilS []:=(.nil _)
  have hlq:LoopI (cfg 0) 0 3 (bodyAt (cfg 0) 3 20) 20 ⟨tuSt s .nilS pb .nilS 0,hp2⟩ (.exit 2) ⟨tuEnd s .nilS pb,hp2⟩:=by
   exact tu_x (m:=0) (s:=s) (vs:=(([]:List Po).map Po.v)) (.nil _) rfl
  have hn2:∀ hp:List Blk,∃ p hp',evI (cfg 0) 0 10 [.nilS] hp=some (.tup [.ptr p 0, .int .i64 0],hp'):=fun hp=>by
   obtain ⟨pb,mb,hp',es,w1,_⟩:=new_ok (m:=0) (L:=[]) (by simp) (by simp) (l := .nilS) (.nil _) (by simp) hp
   exact ⟨pb,hp',w1 0⟩
  exact te_00 ex8 hl (vs:=(([]:List Po).map Po.v)) (by simp) hlp w1 w2 hnm hns rfl hlq (of_none hc2 w2 w3 w4 (by rw [hm];simp []))  hn2
theorem table_1 {l:AV} {s:Bs} {rs:List AV} {hp1:List Blk} {g:Nat} {p0:Po} (hl:IsSl 7 l rs) (hlp:LoopI (cfg 0) 0 3 (bodyAt (cfg 0) 3 6) 6 ⟨ttSt l s .nilS 0,[]⟩ (.exit 0) ⟨ttEnd s (.lit 4 (.fam g 0) (([p0]:List Po).map Po.v)),hp1⟩) (hG:∀ p ∈ ([p0]:List Po),PoG p) (n0:p0.n=[99]) (hc:cloH hp1.length hp1=true) (ha:cloA hp1.length (.lit 4 (.fam g 0) (([p0]:List Po).map Po.v))=true):evI (cfg 0) 0 3 [l, .str s] []=some (.bool true,[]):=by
 have hm:([p0]:List Po).map Po.n=[[99]]:=by simp [n0]
 have hd:(([p0]:List Po).map Po.n).Nodup:=by rw [hm];decide
 obtain ⟨pb,mb,hp2,es,w1,w2,w3,w4⟩:=new_ok (m:=0) (L:=[p0]) hG (by simp) (l:=(.lit 4 (.fam g 0) (([p0]:List Po).map Po.v))) (.lit _ _ _) hd hp1
 have hc2:=new_cl (L:=[p0]) (w1 0) ha hc
 match es,w4 with
 | [(k0,v0)],w4 =>
  have e0:k0=[99]:=(w4.1.1).trans n0
  subst e0
  have hnm:∀ fl,evI (cfg 0) fl 11 [.mpr mb] hp2=some ((.lit 1 .sealed [.str [99]]),hp2):=fun fl=>names_ok w3 names1
  have hns:IsSl 1 (.lit 1 .sealed [.str [99]]) [.str [99]]:=(.lit _ _ _)
  obtain ⟨w_0,of0,ln0⟩:=of_p (m:=0) hG hd hc2 w2 w3 w4 (p:=p0) (by simp)
  rw [n0] at of0
  have g0:=hG p0 (by simp)
  have c0:(([p0]:List Po).map Po.v)[0]?=some (plA [99] p0.o p0.A p0.B):=by rw [← n0];rfl
  have hlq:LoopI (cfg 0) 0 3 (bodyAt (cfg 0) 3 20) 20 ⟨tuSt s (.lit 4 (.fam g 0) (([p0]:List Po).map Po.v)) pb (.lit 1 .sealed [.str [99]]) 0,hp2⟩ (.exit 2) ⟨tuEnd s (.lit 4 (.fam g 0) (([p0]:List Po).map Po.v)) pb,hp2⟩:=by
   refine tu_0 (m:=0) (s:=s) (vs:=(([p0]:List Po).map Po.v)) (.lit _ _ _) c0 (by simp) (by simp) of0 g0.o.len ln0 (rop_o g0.o) _ _ ?_
   exact tu_x (m:=0) (s:=s) (vs:=(([p0]:List Po).map Po.v)) (.lit _ _ _) rfl
  have hn2:∀ (g:Nat) (hp:List Blk),∃ hp',evI (cfg 0) 0 10 [.lit 4 (.fam g 0) ((([p0]:List Po).map Po.v)++(([p0]:List Po).map Po.v))] hp=some (.tup [.nilP, .int .i64 1],hp'):=fun g hp=>by
   obtain ⟨hp',h⟩:=new_no (m:=0) (L:=[p0]) hG (by simp) (l := .lit 4 (.fam g 0) ((([p0]:List Po).map Po.v)++(([p0]:List Po).map Po.v))) app_vv hd (by simp) hp
   exact ⟨hp',h 0⟩
  by_cases s0:s=[99]
  ·subst s0
   exact te_10 ex8 hl (vs:=(([p0]:List Po).map Po.v)) (by simp) hlp w1 w2 hnm hns rfl hlq of0 hn2
  exact te_11 ex8 hl (vs:=(([p0]:List Po).map Po.v)) (by simp) hlp w1 w2 hnm hns rfl hlq (of_none hc2 w2 w3 w4 (by rw [hm];simp [s0])) s0 hn2
theorem table_2 {l:AV} {s:Bs} {rs:List AV} {hp1:List Blk} {g:Nat} {p0 p1:Po} (hl:IsSl 7 l rs) (hlp:LoopI (cfg 0) 0 3 (bodyAt (cfg 0) 3 6) 6 ⟨ttSt l s .nilS 0,[]⟩ (.exit 0) ⟨ttEnd s (.lit 4 (.fam g 0) (([p0,p1]:List Po).map Po.v)),hp1⟩) (hG:∀ p ∈ ([p0,p1]:List Po),PoG p) (n0:p0.n=[99]) (n1:p1.n=[97]) (hc:cloH hp1.length hp1=true) (ha:cloA hp1.length (.lit 4 (.fam g 0) (([p0,p1]:List Po).map Po.v))=true):evI (cfg 0) 0 3 [l, .str s] []=some (.bool true,[]):=by
 have hm:([p0,p1]:List Po).map Po.n=[[99],[97]]:=by simp [n0,n1]
 have hd:(([p0,p1]:List Po).map Po.n).Nodup:=by rw [hm];decide
 obtain ⟨pb,mb,hp2,es,w1,w2,w3,w4⟩:=new_ok (m:=0) (L:=[p0,p1]) hG (by simp) (l:=(.lit 4 (.fam g 0) (([p0,p1]:List Po).map Po.v))) (.lit _ _ _) hd hp1
 have hc2:=new_cl (L:=[p0,p1]) (w1 0) ha hc
 match es,w4 with
 | [(k0,v0),(k1,v1)],w4 =>
  have e0:k0=[99]:=(w4.1.1).trans n0
  have e1:k1=[97]:=(w4.2.1.1).trans n1
  subst e0
  subst e1
  have hnm:∀ fl,evI (cfg 0) fl 11 [.mpr mb] hp2=some ((.lit 1 .sealed [.str [97], .str [99]]),hp2):=fun fl=>names_ok w3 names2
  have hns:IsSl 1 (.lit 1 .sealed [.str [97], .str [99]]) [.str [97], .str [99]]:=(.lit _ _ _)
  obtain ⟨w_0,of0,ln0⟩:=of_p (m:=0) hG hd hc2 w2 w3 w4 (p:=p0) (by simp)
  rw [n0] at of0
  have g0:=hG p0 (by simp)
  have c0:(([p0,p1]:List Po).map Po.v)[0]?=some (plA [99] p0.o p0.A p0.B):=by rw [← n0];rfl
  obtain ⟨w_1,of1,ln1⟩:=of_p (m:=0) hG hd hc2 w2 w3 w4 (p:=p1) (by simp)
  rw [n1] at of1
  have g1:=hG p1 (by simp)
  have c1:(([p0,p1]:List Po).map Po.v)[1]?=some (plA [97] p1.o p1.A p1.B):=by rw [← n1];rfl
  have hlq:LoopI (cfg 0) 0 3 (bodyAt (cfg 0) 3 20) 20 ⟨tuSt s (.lit 4 (.fam g 0) (([p0,p1]:List Po).map Po.v)) pb (.lit 1 .sealed [.str [97], .str [99]]) 0,hp2⟩ (.exit 2) ⟨tuEnd s (.lit 4 (.fam g 0) (([p0,p1]:List Po).map Po.v)) pb,hp2⟩:=by
   refine tu_0 (m:=0) (s:=s) (vs:=(([p0,p1]:List Po).map Po.v)) (.lit _ _ _) c0 (by simp) (by simp) of0 g0.o.len ln0 (rop_o g0.o) _ _ ?_
   refine tu_1 (m:=0) (s:=s) (vs:=(([p0,p1]:List Po).map Po.v)) (ns:=[.str [97], .str [99]]) (.lit _ _ _) c1 (by simp) (by simp) hns rfl rfl rfl (by decide) of1 g1.o.len ln1 (rop_o g1.o) _ _ ?_
   exact tu_x (m:=0) (s:=s) (vs:=(([p0,p1]:List Po).map Po.v)) (.lit _ _ _) rfl
  have hn2:∀ (g:Nat) (hp:List Blk),∃ hp',evI (cfg 0) 0 10 [.lit 4 (.fam g 0) ((([p0,p1]:List Po).map Po.v)++(([p0,p1]:List Po).map Po.v))] hp=some (.tup [.nilP, .int .i64 1],hp'):=fun g hp=>by
   obtain ⟨hp',h⟩:=new_no (m:=0) (L:=[p0,p1]) hG (by simp) (l := .lit 4 (.fam g 0) ((([p0,p1]:List Po).map Po.v)++(([p0,p1]:List Po).map Po.v))) app_vv hd (by simp) hp
   exact ⟨hp',h 0⟩
  by_cases s0:s=[99]
  ·subst s0
   exact te_20 ex8 hl (vs:=(([p0,p1]:List Po).map Po.v)) (by simp) hlp w1 w2 hnm hns rfl hlq of0 hn2
  by_cases s1:s=[97]
  ·subst s1
   exact te_21 ex8 hl (vs:=(([p0,p1]:List Po).map Po.v)) (by simp) hlp w1 w2 hnm hns rfl hlq of1 hn2
  exact te_22 ex8 hl (vs:=(([p0,p1]:List Po).map Po.v)) (by simp) hlp w1 w2 hnm hns rfl hlq (of_none hc2 w2 w3 w4 (by rw [hm];simp [s0,s1])) s0 s1 hn2
theorem table_3 {l:AV} {s:Bs} {rs:List AV} {hp1:List Blk} {g:Nat} {p0 p1 p2:Po} (hl:IsSl 7 l rs) (hlp:LoopI (cfg 0) 0 3 (bodyAt (cfg 0) 3 6) 6 ⟨ttSt l s .nilS 0,[]⟩ (.exit 0) ⟨ttEnd s (.lit 4 (.fam g 0) (([p0,p1,p2]:List Po).map Po.v)),hp1⟩) (hG:∀ p ∈ ([p0,p1,p2]:List Po),PoG p) (n0:p0.n=[99]) (n1:p1.n=[97]) (n2:p2.n=[98]) (hc:cloH hp1.length hp1=true) (ha:cloA hp1.length (.lit 4 (.fam g 0) (([p0,p1,p2]:List Po).map Po.v))=true):evI (cfg 0) 0 3 [l, .str s] []=some (.bool true,[]):=by
 have hm:([p0,p1,p2]:List Po).map Po.n=[[99],[97],[98]]:=by simp [n0,n1,n2]
 have hd:(([p0,p1,p2]:List Po).map Po.n).Nodup:=by rw [hm];decide
 obtain ⟨pb,mb,hp2,es,w1,w2,w3,w4⟩:=new_ok (m:=0) (L:=[p0,p1,p2]) hG (by simp) (l:=(.lit 4 (.fam g 0) (([p0,p1,p2]:List Po).map Po.v))) (.lit _ _ _) hd hp1
 have hc2:=new_cl (L:=[p0,p1,p2]) (w1 0) ha hc
 match es,w4 with
 | [(k0,v0),(k1,v1),(k2,v2)],w4 =>
  have e0:k0=[99]:=(w4.1.1).trans n0
  have e1:k1=[97]:=(w4.2.1.1).trans n1
  have e2:k2=[98]:=(w4.2.2.1.1).trans n2
  subst e0
  subst e1
  subst e2
  have hnm:∀ fl,evI (cfg 0) fl 11 [.mpr mb] hp2=some ((.lit 1 .sealed [.str [97], .str [98], .str [99]]),hp2):=fun fl=>names_ok w3 names3
  have hns:IsSl 1 (.lit 1 .sealed [.str [97], .str [98], .str [99]]) [.str [97], .str [98], .str [99]]:=(.lit _ _ _)
  obtain ⟨w_0,of0,ln0⟩:=of_p (m:=0) hG hd hc2 w2 w3 w4 (p:=p0) (by simp)
  rw [n0] at of0
  have g0:=hG p0 (by simp)
  have c0:(([p0,p1,p2]:List Po).map Po.v)[0]?=some (plA [99] p0.o p0.A p0.B):=by rw [← n0];rfl
  obtain ⟨w_1,of1,ln1⟩:=of_p (m:=0) hG hd hc2 w2 w3 w4 (p:=p1) (by simp)
  rw [n1] at of1
  have g1:=hG p1 (by simp)
  have c1:(([p0,p1,p2]:List Po).map Po.v)[1]?=some (plA [97] p1.o p1.A p1.B):=by rw [← n1];rfl
  obtain ⟨w_2,of2,ln2⟩:=of_p (m:=0) hG hd hc2 w2 w3 w4 (p:=p2) (by simp)
  rw [n2] at of2
  have g2:=hG p2 (by simp)
  have c2:(([p0,p1,p2]:List Po).map Po.v)[2]?=some (plA [98] p2.o p2.A p2.B):=by rw [← n2];rfl
  have hlq:LoopI (cfg 0) 0 3 (bodyAt (cfg 0) 3 20) 20 ⟨tuSt s (.lit 4 (.fam g 0) (([p0,p1,p2]:List Po).map Po.v)) pb (.lit 1 .sealed [.str [97], .str [98], .str [99]]) 0,hp2⟩ (.exit 2) ⟨tuEnd s (.lit 4 (.fam g 0) (([p0,p1,p2]:List Po).map Po.v)) pb,hp2⟩:=by
   refine tu_0 (m:=0) (s:=s) (vs:=(([p0,p1,p2]:List Po).map Po.v)) (.lit _ _ _) c0 (by simp) (by simp) of0 g0.o.len ln0 (rop_o g0.o) _ _ ?_
   refine tu_1 (m:=0) (s:=s) (vs:=(([p0,p1,p2]:List Po).map Po.v)) (ns:=[.str [97], .str [98], .str [99]]) (.lit _ _ _) c1 (by simp) (by simp) hns rfl rfl rfl (by decide) of1 g1.o.len ln1 (rop_o g1.o) _ _ ?_
   refine tu_2 (m:=0) (s:=s) (vs:=(([p0,p1,p2]:List Po).map Po.v)) (ns:=[.str [97], .str [98], .str [99]]) (.lit _ _ _) c2 (by simp) (by simp) hns rfl rfl rfl (by decide) of2 g2.o.len ln2 (rop_o g2.o) _ _ ?_
   exact tu_x (m:=0) (s:=s) (vs:=(([p0,p1,p2]:List Po).map Po.v)) (.lit _ _ _) rfl
  have hn2:∀ (g:Nat) (hp:List Blk),∃ hp',evI (cfg 0) 0 10 [.lit 4 (.fam g 0) ((([p0,p1,p2]:List Po).map Po.v)++(([p0,p1,p2]:List Po).map Po.v))] hp=some (.tup [.nilP, .int .i64 1],hp'):=fun g hp=>by
   obtain ⟨hp',h⟩:=new_no (m:=0) (L:=[p0,p1,p2]) hG (by simp) (l := .lit 4 (.fam g 0) ((([p0,p1,p2]:List Po).map Po.v)++(([p0,p1,p2]:List Po).map Po.v))) app_vv hd (by simp) hp
   exact ⟨hp',h 0⟩
  by_cases s0:s=[99]
  ·subst s0
   exact te_30 ex8 hl (vs:=(([p0,p1,p2]:List Po).map Po.v)) (by simp) hlp w1 w2 hnm hns rfl hlq of0 hn2
  by_cases s1:s=[97]
  ·subst s1
   exact te_31 ex8 hl (vs:=(([p0,p1,p2]:List Po).map Po.v)) (by simp) hlp w1 w2 hnm hns rfl hlq of1 hn2
  by_cases s2:s=[98]
  ·subst s2
   exact te_32 ex8 hl (vs:=(([p0,p1,p2]:List Po).map Po.v)) (by simp) hlp w1 w2 hnm hns rfl hlq of2 hn2
  exact te_33 ex8 hl (vs:=(([p0,p1,p2]:List Po).map Po.v)) (by simp) hlp w1 w2 hnm hns rfl hlq (of_none hc2 w2 w3 w4 (by rw [hm];simp [s0,s1,s2])) s0 s1 s2 hn2
theorem law_table (l:AV) (s:List UInt8) (sl:Sh (cfg 0) 8 22 l) (_:s.length≤9223372036854775807):evI (cfg 0) 0 3 [l, .str s] []=some (.bool true,[]):=by
 obtain ⟨rs,h1,h2⟩:=sh22 sl
 obtain ⟨hp1,al,L,g1,g2,g3,g4,g5⟩:=tt_loop (m:=0) (s:=s) h1.isSl (rs_of h2) 3 0 [] .nilS [] rfl (Nat.zero_le _) (.nil _ _ _) rfl rfl (by simp) (.inl ⟨rfl,rfl⟩)
 have ok:=(loopI_c (good 0) g1 ⟨fun x hx=>by
  have hx:x ∈ ttSt l s .nilS 0:=hx
  simp only [ttSt,List.mem_append,List.mem_cons,List.not_mem_nil,or_false,List.mem_replicate] at hx
  rcases hx with (rfl | rfl | rfl | rfl | rfl | rfl | rfl | rfl) | ⟨_,rfl⟩ <;> first | exact clo22 sl | exact rfl | trivial,rfl⟩).1
 have hc:cloH hp1.length hp1=true:=ok.hp
 have ha:cloA hp1.length al=true:=ok.ts (.v al) (List.mem_append.2 (.inl (by simp)))
 rcases g5 with ⟨rfl,rfl⟩ | ⟨g,rfl,g6⟩
 ·exact table_0 h1.isSl g1 (by simp) hc ha
 ·match L,g2,g3,g4,g1,hc,ha,g6 with
  | [],_,_,_,_,_,_,g6=>cases g6
  | [p0],_,g3,g4,g1,hc,ha,_=>exact table_1 h1.isSl g1 g4 (List.cons.inj g3).1 hc ha
  | [p0,p1],_,g3,g4,g1,hc,ha,_=>exact table_2 h1.isSl g1 g4 (List.cons.inj g3).1 (List.cons.inj (List.cons.inj g3).2).1 hc ha
  | [p0,p1,p2],_,g3,g4,g1,hc,ha,_=>exact table_3 h1.isSl g1 g4 (List.cons.inj g3).1 (List.cons.inj (List.cons.inj g3).2).1 (List.cons.inj (List.cons.inj (List.cons.inj g3).2).2).1 hc ha
  | _::_::_::_::_,g2,_,_,_,_,_,_=>simp at g2
end Go.Proofs.YtbbndbckopljfaaGreatDoor.E.SW
