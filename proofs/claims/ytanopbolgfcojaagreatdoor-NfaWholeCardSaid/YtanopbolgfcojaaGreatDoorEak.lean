/- Steps of the seat's proofs: an evaluator of the program's code, its soundness, and what the functions come to. -/
import Derived.Test.YtanopbolgfcojaaGreatDoorEaj
set_option linter.unusedSimpArgs false
set_option linter.unusedVariables false
namespace Go.Proofs.YtanopbolgfcojaaGreatDoor.E.SZ
open Go Go.Proofs E E.R
theorem nw_1 {m:Int} {x y:AV} {s t:List UInt8} {e p1:Int} (hex:evI (cfg m) 0 9 [] []=some (.bool true,[])) (hx:evI (cfg m) 0 10 [x] []=some (.str s,[])) (hy:evI (cfg m) 0 11 [y] []=some (.str t,[])) (ls:s.length≤80) (o1:evI (cfg m) 0 12 [.str (s)] []=some (.tup [.nilP, .int .i64 p1, .int .i64 e],[])) (he:¬ e=0):evI (cfg m) 0 3 [x,y] []=some (.bool true,[]):=by
 exact evX (AV.bool true) ([]) [.c 1 0 hex, .c 4 1 hx, .c 5 1 hy, .c 6 1 o1, .b 7 1 (bne_iff_ne.2 (he))] (by kernel_rfl) (tlP (by kernel_rfl) rfl (shutT (v:=AV.bool true) (v':=AV.bool true) (by kernel_rfl))) rfl
theorem nw_2a {m:Int} {x y:AV} {s t:List UInt8} {p1 p2 p3:Int} {n1 n2:Nat} {g1 g2 g3:List Blk} (hex:evI (cfg m) 0 9 [] []=some (.bool true,[])) (hx:evI (cfg m) 0 10 [x] []=some (.str s,[])) (hy:evI (cfg m) 0 11 [y] []=some (.str t,[])) (ls:s.length≤80) (o1:evI (cfg m) 0 12 [.str (s)] []=some (.tup [.ptr 0 0, .int .i64 p1, .int .i64 0],g1)) (o2:evI (cfg m) 0 12 [.str ([40,46,124,10,41,42,40]++s++[41,40,46,124,10,41,42])] g1=some (.tup [.ptr n1 0, .int .i64 p2, .int .i64 0],g2)) (o3:evI (cfg m) 0 12 [.str ([94,40]++s++[41,36])] g2=some (.tup [.ptr n2 0, .int .i64 p3, .int .i64 0],g3)) (w1:evI (cfg m) 0 13 [.ptr 0 0, .str t] g3=some (.bool true,g3)) (w2:evI (cfg m) 0 14 [.ptr 0 0, .str t] g3=some (.bool true,g3)) (w3:evI (cfg m) 0 13 [.ptr n1 0, .str t] g3=some (.bool true,g3)) (w4:evI (cfg m) 0 14 [.ptr n2 0, .str t] g3=some (.bool true,g3)) (w5:evI (cfg m) 0 13 [.ptr n2 0, .str t] g3=some (.bool true,g3)):evI (cfg m) 0 3 [x,y] []=some (.bool true,[]):=by
 exact evX (AV.bool true) (g3) [.c 1 0 hex, .c 4 1 hx, .c 5 1 hy, .c 6 1 o1, .v 9 1 (strOp_add (x:=[40,46,124,10,41,42,40]) (y:=s) (by simp only [setAt_length,List.length_append,List.length_cons,List.length_nil,List.length_map] at *;omega)), .v 9 2 (strOp_add (x:=[40,46,124,10,41,42,40]++s) (y:=[41,40,46,124,10,41,42]) (by simp only [setAt_length,List.length_append,List.length_cons,List.length_nil,List.length_map] at *;omega)), .c 9 3 o2, .v 10 1 (strOp_add (x:=[94,40]) (y:=s) (by simp only [setAt_length,List.length_append,List.length_cons,List.length_nil,List.length_map] at *;omega)), .v 10 2 (strOp_add (x:=[94,40]++s) (y:=[41,36]) (by simp only [setAt_length,List.length_append,List.length_cons,List.length_nil,List.length_map] at *;omega)), .c 10 3 o3, .c 15 4 w1, .c 15 9 w2, .c 15 15 w2, .c 15 18 w3, .c 15 24 w1, .c 15 27 w4, .c 15 33 w4, .c 15 36 w5] (by kernel_rfl) (tlP (by kernel_rfl) rfl (shutT (v:=AV.bool true) (v':=AV.bool true) (by kernel_rfl))) rfl
theorem nw_2b {m:Int} {x y:AV} {s t:List UInt8} {p1 p2 p3:Int} {n1 n2:Nat} {g1 g2 g3:List Blk} (hex:evI (cfg m) 0 9 [] []=some (.bool true,[])) (hx:evI (cfg m) 0 10 [x] []=some (.str s,[])) (hy:evI (cfg m) 0 11 [y] []=some (.str t,[])) (ls:s.length≤80) (o1:evI (cfg m) 0 12 [.str (s)] []=some (.tup [.ptr 0 0, .int .i64 p1, .int .i64 0],g1)) (o2:evI (cfg m) 0 12 [.str ([40,46,124,10,41,42,40]++s++[41,40,46,124,10,41,42])] g1=some (.tup [.ptr n1 0, .int .i64 p2, .int .i64 0],g2)) (o3:evI (cfg m) 0 12 [.str ([94,40]++s++[41,36])] g2=some (.tup [.ptr n2 0, .int .i64 p3, .int .i64 0],g3)) (w1:evI (cfg m) 0 13 [.ptr 0 0, .str t] g3=some (.bool false,g3)) (w2:evI (cfg m) 0 14 [.ptr 0 0, .str t] g3=some (.bool true,g3)) (w3:evI (cfg m) 0 13 [.ptr n1 0, .str t] g3=some (.bool true,g3)) (w4:evI (cfg m) 0 14 [.ptr n2 0, .str t] g3=some (.bool false,g3)) (w5:evI (cfg m) 0 13 [.ptr n2 0, .str t] g3=some (.bool false,g3)):evI (cfg m) 0 3 [x,y] []=some (.bool true,[]):=by
 exact evX (AV.bool true) (g3) [.c 1 0 hex, .c 4 1 hx, .c 5 1 hy, .c 6 1 o1, .v 9 1 (strOp_add (x:=[40,46,124,10,41,42,40]) (y:=s) (by simp only [setAt_length,List.length_append,List.length_cons,List.length_nil,List.length_map] at *;omega)), .v 9 2 (strOp_add (x:=[40,46,124,10,41,42,40]++s) (y:=[41,40,46,124,10,41,42]) (by simp only [setAt_length,List.length_append,List.length_cons,List.length_nil,List.length_map] at *;omega)), .c 9 3 o2, .v 10 1 (strOp_add (x:=[94,40]) (y:=s) (by simp only [setAt_length,List.length_append,List.length_cons,List.length_nil,List.length_map] at *;omega)), .v 10 2 (strOp_add (x:=[94,40]++s) (y:=[41,36]) (by simp only [setAt_length,List.length_append,List.length_cons,List.length_nil,List.length_map] at *;omega)), .c 10 3 o3, .c 15 4 w1, .c 15 15 w2, .c 15 18 w3, .c 15 24 w1, .c 15 27 w4, .c 15 33 w4, .c 15 36 w5] (by kernel_rfl) (tlP (by kernel_rfl) rfl (shutT (v:=AV.bool true) (v':=AV.bool true) (by kernel_rfl))) rfl
theorem nw_2c {m:Int} {x y:AV} {s t:List UInt8} {p1 p2 p3:Int} {n1 n2:Nat} {g1 g2 g3:List Blk} (hex:evI (cfg m) 0 9 [] []=some (.bool true,[])) (hx:evI (cfg m) 0 10 [x] []=some (.str s,[])) (hy:evI (cfg m) 0 11 [y] []=some (.str t,[])) (ls:s.length≤80) (o1:evI (cfg m) 0 12 [.str (s)] []=some (.tup [.ptr 0 0, .int .i64 p1, .int .i64 0],g1)) (o2:evI (cfg m) 0 12 [.str ([40,46,124,10,41,42,40]++s++[41,40,46,124,10,41,42])] g1=some (.tup [.ptr n1 0, .int .i64 p2, .int .i64 0],g2)) (o3:evI (cfg m) 0 12 [.str ([94,40]++s++[41,36])] g2=some (.tup [.ptr n2 0, .int .i64 p3, .int .i64 0],g3)) (w1:evI (cfg m) 0 13 [.ptr 0 0, .str t] g3=some (.bool false,g3)) (w2:evI (cfg m) 0 14 [.ptr 0 0, .str t] g3=some (.bool false,g3)) (w3:evI (cfg m) 0 13 [.ptr n1 0, .str t] g3=some (.bool false,g3)) (w4:evI (cfg m) 0 14 [.ptr n2 0, .str t] g3=some (.bool false,g3)) (w5:evI (cfg m) 0 13 [.ptr n2 0, .str t] g3=some (.bool false,g3)):evI (cfg m) 0 3 [x,y] []=some (.bool true,[]):=by
 exact evX (AV.bool true) (g3) [.c 1 0 hex, .c 4 1 hx, .c 5 1 hy, .c 6 1 o1, .v 9 1 (strOp_add (x:=[40,46,124,10,41,42,40]) (y:=s) (by simp only [setAt_length,List.length_append,List.length_cons,List.length_nil,List.length_map] at *;omega)), .v 9 2 (strOp_add (x:=[40,46,124,10,41,42,40]++s) (y:=[41,40,46,124,10,41,42]) (by simp only [setAt_length,List.length_append,List.length_cons,List.length_nil,List.length_map] at *;omega)), .c 9 3 o2, .v 10 1 (strOp_add (x:=[94,40]) (y:=s) (by simp only [setAt_length,List.length_append,List.length_cons,List.length_nil,List.length_map] at *;omega)), .v 10 2 (strOp_add (x:=[94,40]++s) (y:=[41,36]) (by simp only [setAt_length,List.length_append,List.length_cons,List.length_nil,List.length_map] at *;omega)), .c 10 3 o3, .c 15 4 w1, .c 15 15 w2, .c 15 18 w3, .c 15 24 w1, .c 15 27 w4, .c 15 33 w4, .c 15 36 w5] (by kernel_rfl) (tlP (by kernel_rfl) rfl (shutT (v:=AV.bool true) (v':=AV.bool true) (by kernel_rfl))) rfl
theorem nw_3 {m:Int} {x y:AV} {s t:List UInt8} {p1 p2 p3 e3:Int} {rp:AV} {g1 g3:List Blk} (hex:evI (cfg m) 0 9 [] []=some (.bool true,[])) (hx:evI (cfg m) 0 10 [x] []=some (.str s,[])) (hy:evI (cfg m) 0 11 [y] []=some (.str t,[])) (ls:s.length≤80) (o1:evI (cfg m) 0 12 [.str (s)] []=some (.tup [.ptr 0 0, .int .i64 p1, .int .i64 0],g1)) (o2:evI (cfg m) 0 12 [.str ([40,46,124,10,41,42,40]++s++[41,40,46,124,10,41,42])] g1=some (.tup [.nilP, .int .i64 p2, .int .i64 4],g1)) (o3:evI (cfg m) 0 12 [.str ([94,40]++s++[41,36])] g1=some (.tup [rp, .int .i64 p3, .int .i64 e3],g3)):evI (cfg m) 0 3 [x,y] []=some (.bool true,[]):=by
 exact evX (AV.bool true) (g3) [.c 1 0 hex, .c 4 1 hx, .c 5 1 hy, .c 6 1 o1, .v 9 1 (strOp_add (x:=[40,46,124,10,41,42,40]) (y:=s) (by simp only [setAt_length,List.length_append,List.length_cons,List.length_nil,List.length_map] at *;omega)), .v 9 2 (strOp_add (x:=[40,46,124,10,41,42,40]++s) (y:=[41,40,46,124,10,41,42]) (by simp only [setAt_length,List.length_append,List.length_cons,List.length_nil,List.length_map] at *;omega)), .c 9 3 o2, .v 10 1 (strOp_add (x:=[94,40]) (y:=s) (by simp only [setAt_length,List.length_append,List.length_cons,List.length_nil,List.length_map] at *;omega)), .v 10 2 (strOp_add (x:=[94,40]++s) (y:=[41,36]) (by simp only [setAt_length,List.length_append,List.length_cons,List.length_nil,List.length_map] at *;omega)), .c 10 3 o3] (by kernel_rfl) (tlP (by kernel_rfl) rfl (shutT (v:=AV.bool true) (v':=AV.bool true) (by kernel_rfl))) rfl
theorem nw_4 {m:Int} {x y:AV} {s t:List UInt8} {p1 p2 p3:Int} {n1:Nat} {g1 g2:List Blk} (hex:evI (cfg m) 0 9 [] []=some (.bool true,[])) (hx:evI (cfg m) 0 10 [x] []=some (.str s,[])) (hy:evI (cfg m) 0 11 [y] []=some (.str t,[])) (ls:s.length≤80) (o1:evI (cfg m) 0 12 [.str (s)] []=some (.tup [.ptr 0 0, .int .i64 p1, .int .i64 0],g1)) (o2:evI (cfg m) 0 12 [.str ([40,46,124,10,41,42,40]++s++[41,40,46,124,10,41,42])] g1=some (.tup [.ptr n1 0, .int .i64 p2, .int .i64 0],g2)) (o3:evI (cfg m) 0 12 [.str ([94,40]++s++[41,36])] g2=some (.tup [.nilP, .int .i64 p3, .int .i64 4],g2)):evI (cfg m) 0 3 [x,y] []=some (.bool true,[]):=by
 exact evX (AV.bool true) (g2) [.c 1 0 hex, .c 4 1 hx, .c 5 1 hy, .c 6 1 o1, .v 9 1 (strOp_add (x:=[40,46,124,10,41,42,40]) (y:=s) (by simp only [setAt_length,List.length_append,List.length_cons,List.length_nil,List.length_map] at *;omega)), .v 9 2 (strOp_add (x:=[40,46,124,10,41,42,40]++s) (y:=[41,40,46,124,10,41,42]) (by simp only [setAt_length,List.length_append,List.length_cons,List.length_nil,List.length_map] at *;omega)), .c 9 3 o2, .v 10 1 (strOp_add (x:=[94,40]) (y:=s) (by simp only [setAt_length,List.length_append,List.length_cons,List.length_nil,List.length_map] at *;omega)), .v 10 2 (strOp_add (x:=[94,40]++s) (y:=[41,36]) (by simp only [setAt_length,List.length_append,List.length_cons,List.length_nil,List.length_map] at *;omega)), .c 10 3 o3] (by kernel_rfl) (tlP (by kernel_rfl) rfl (shutT (v:=AV.bool true) (v':=AV.bool true) (by kernel_rfl))) rfl
end Go.Proofs.YtanopbolgfcojaaGreatDoor.E.SZ
namespace Go.Proofs.YtanopbolgfcojaaGreatDoor.E.SZ
open Go Go.Proofs E E.R E.SZ.N
theorem bool_eq {a b:Bool} {P:Prop} (h:a=true↔P) (g:b=true↔P):a=b:=by rw [Bool.eq_iff_iff,h,g]
theorem whole_law {m:Int} {x y:AV} {bx bY:List UInt8} (hx:IsSl 1 x (bsV bx)) (hy:IsSl 1 y (bsV bY)):evI (cfg m) 0 3 [x,y] []=some (.bool true,[]):=by
 have xa:=rexes_ok (m:=m) (fl:=0) (hp:=[]) hx
 have xb:=few_ok (m:=m) (fl:=0) (hp:=[]) hy
 have la:=rexes_len bx
 have lb:=feT_len bY
 generalize rexesF bx=s at *
 generalize feT bY=t at *
 rcases of_any (m:=m) (fl:=0) (hp:=[]) s (by omega) rfl (Nat.zero_le _) with ⟨n,h1,_,g1,o1,p1,c1,a1,_⟩ | ⟨q,e,he,o1⟩
 ·have hN:=p1.norm
  rcases of_expr (m:=m) (fl:=0) (hp:=g1) (inside_rd h1) (by simp;omega) c1 (Nat.zero_le _) with ⟨_,g2,o2,p2,c2,a2,_⟩ | o2
  ·rcases of_expr (m:=m) (fl:=0) (hp:=g2) (between_rd h1) (by simp;omega) c2 (Nat.zero_le _) with ⟨_,g3,o3,p3,c3,a3,_⟩ | o3
   ·have q1:=p1.fr (a2.trans a3)
    have q2:=p2.fr a3
    obtain ⟨b1,w1,i1⟩:=whole_prg (m:=m) (fl:=0) (s:=t) q1 (by omega)
    obtain ⟨b2,w2,i2⟩:=find_prg (m:=m) (fl:=0) (s:=t) q1 (by omega)
    obtain ⟨b3,w3,i3⟩:=whole_prg (m:=m) (fl:=0) (s:=t) q2 (by omega)
    obtain ⟨b4,w4,i4⟩:=find_prg (m:=m) (fl:=0) (s:=t) p3 (by omega)
    obtain ⟨b5,w5,i5⟩:=whole_prg (m:=m) (fl:=0) (s:=t) p3 (by omega)
    rw [LN_inside hN] at i3
    simp only [LN_between hN] at i4 i5
    have e3:b3=b2:=bool_eq i3 i2
    have e5:b5=b1:=bool_eq (i5.trans ⟨fun h=>h.2.2,fun h=>⟨by trivial,by trivial,h⟩⟩) i1
    have e4:b4=b1:=bool_eq (i4.trans ⟨fun ⟨_,_,_,_,_,h⟩=>h,fun h=>⟨0,t.length,Nat.zero_le _,rfl,rfl,h⟩⟩) i1
    subst e3 e4 e5
    have imp:b5=true→b3=true:=fun h=>i2.2 ⟨0,_,Nat.zero_le _,i1.1 h⟩
    cases b5
    ·cases b3
     ·exact nw_2c ex0 xa xb la o1 o2 o3 w1 w2 w3 w4 w5
     ·exact nw_2b ex0 xa xb la o1 o2 o3 w1 w2 w3 w4 w5
    ·obtain rfl:=imp rfl
     exact nw_2a ex0 xa xb la o1 o2 o3 w1 w2 w3 w4 w5
   ·exact nw_4 ex0 xa xb la o1 o2 o3
  ·rcases of_expr (m:=m) (fl:=0) (hp:=g1) (between_rd h1) (by simp;omega) c1 (Nat.zero_le _) with ⟨_,g3,o3,_⟩ | o3
   ·exact nw_3 ex0 xa xb la o1 o2 o3
   ·exact nw_3 ex0 xa xb la o1 o2 o3
 ·exact nw_1 ex0 xa xb la o1 he
theorem whole_all (x y:AV) (hx:Sh (cfg 0) 6 22 x) (hy:Sh (cfg 0) 6 22 y):evI (cfg 0) 0 3 [x,y] []=some (.bool true,[]):=by
 obtain ⟨b1,h1⟩:=bytes_of hx
 obtain ⟨b2,h2⟩:=bytes_of hy
 exact whole_law h1 h2
end Go.Proofs.YtanopbolgfcojaaGreatDoor.E.SZ
