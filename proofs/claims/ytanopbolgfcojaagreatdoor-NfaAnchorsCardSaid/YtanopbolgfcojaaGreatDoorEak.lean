/- Steps of the seat's proofs: an evaluator of the program's code, its soundness, and what the functions come to. -/
import Derived.Test.YtanopbolgfcojaaGreatDoorEaj
set_option linter.unusedSimpArgs false
set_option linter.unusedVariables false
namespace Go.Proofs.YtanopbolgfcojaaGreatDoor.E.SZ
open Go Go.Proofs E E.R
abbrev nlSt (a b c:List UInt8) (f:Bool) (i:Nat):List TV:=List.replicate 7 J++[.v (.bool true), .v (.str a), .v (.str b), .v (.str c), .v (.ptr 0 0),J,J, .v (.bool f), .v (AI i)]++List.replicate 73 J
abbrev nlEnd (a b c:List UInt8) (f:Bool):List TV:=List.replicate 7 J++[.v (.bool true), .v (.str a), .v (.str b), .v (.str c), .v (.ptr 0 0),J,J, .v (.bool f)]++List.replicate 74 J
theorem nl_i1 {m:Int} {fl i:Nat} {hp:List Blk} {a b c:List UInt8} (hi:i + a.length≤c.length) (la:a.length≤12) (lc:c.length≤12):LoopS (cfg m) fl 5 (bodyAt (cfg m) 5 12) 12 ⟨nlSt a b c true i,hp⟩ ⟨nlSt a b c true (i + 1),hp⟩:=by
 exact loopStepS (St.mk ([J,J,J,J,J,J,J,TV.v (AV.bool true),TV.v (AV.str a),TV.v (AV.str b),TV.v (AV.str c),TV.v (AV.ptr 0 0),J,J,TV.v (AV.bool true),TV.v (AI ((↑i:Int) + 1))]++Jn 73) hp) [.w 12 3 IntKind.i64 ((↑i:Int) + (↑a.length:Int)) (wrap_i64' (by omega)), .b 12 6 (decide_eq_true ((show (↑i:Int) + (↑a.length:Int)≤(↑c.length:Int) from (by omega)))), .w 13 1 IntKind.i64 ((↑i:Int) + 1) (wrap_i64' (by omega))] (by kernel_rfl) rfl
theorem nl_i2 {m:Int} {fl i:Nat} {hp:List Blk} {a b c:List UInt8} (hi:i + a.length≤c.length) (la:a.length≤12) (lc:c.length≤12) (hq:List.take (((i:Int) + (a.length:Int)).toNat - i) (List.drop i c)=a):LoopS (cfg m) fl 5 (bodyAt (cfg m) 5 12) 12 ⟨nlSt a b c false i,hp⟩ ⟨nlSt a b c true (i + 1),hp⟩:=by
 exact loopStepS (St.mk [J,J,J,J,J,J,J,TV.v (AV.bool true),TV.v (AV.str a),TV.v (AV.str b),TV.v (AV.str c),TV.v (AV.ptr 0 0),J,J,TV.v (AV.bool true),TV.v (AI ((↑i:Int) + 1)),J,J,J,J,J,J,J,J,J,J,J,J,J,J,J,J,J,J,J,J,J,J,J,J,J,J,J,J,J,J,J,J,J,J,J,J,J,J,J,J,J,J,J,J,J,J,J,J,J,J,J,J,J,J,J,J,J,J,J,J,J,J,J,J,J,J,J,J,J,J,J,J,J] hp) [.w 12 3 IntKind.i64 ((↑i:Int) + (↑a.length:Int)) (wrap_i64' (by omega)), .b 12 6 (decide_eq_true ((show (↑i:Int) + (↑a.length:Int)≤(↑c.length:Int) from (by omega)))), .w 14 7 IntKind.i64 ((↑i:Int) + (↑a.length:Int)) (wrap_i64' (by omega)), .s 14 8 (hp) Fp.z (slice_strI (C:=cfg m) (t:=9) (s:=c) (k:=IntKind.i64) (k':=IntKind.i64) (n:=(↑i:Int)) (m:=(↑i:Int) + (↑a.length:Int)) (hp:=hp) (by kernel_rfl) (by omega) (by omega) (by omega)), .b 14 10 (beq_iff_eq.2 (hq)), .w 13 1 IntKind.i64 ((↑i:Int) + 1) (wrap_i64' (by omega))] (by kernel_rfl) rfl
theorem nl_i3 {m:Int} {fl i:Nat} {hp:List Blk} {a b c:List UInt8} (hi:i + a.length≤c.length) (la:a.length≤12) (lc:c.length≤12) (hq:¬ List.take (((i:Int) + (a.length:Int)).toNat - i) (List.drop i c)=a):LoopS (cfg m) fl 5 (bodyAt (cfg m) 5 12) 12 ⟨nlSt a b c false i,hp⟩ ⟨nlSt a b c false (i + 1),hp⟩:=by
 exact loopStepS (St.mk [J,J,J,J,J,J,J,TV.v (AV.bool true),TV.v (AV.str a),TV.v (AV.str b),TV.v (AV.str c),TV.v (AV.ptr 0 0),J,J,TV.v (AV.bool false),TV.v (AI ((↑i:Int) + 1)),J,J,J,J,J,J,J,J,J,J,J,J,J,J,J,J,J,J,J,J,J,J,J,J,J,J,J,J,J,J,J,J,J,J,J,J,J,J,J,J,J,J,J,J,J,J,J,J,J,J,J,J,J,J,J,J,J,J,J,J,J,J,J,J,J,J,J,J,J,J,J,J,J] hp) [.w 12 3 IntKind.i64 ((↑i:Int) + (↑a.length:Int)) (wrap_i64' (by omega)), .b 12 6 (decide_eq_true ((show (↑i:Int) + (↑a.length:Int)≤(↑c.length:Int) from (by omega)))), .w 14 7 IntKind.i64 ((↑i:Int) + (↑a.length:Int)) (wrap_i64' (by omega)), .s 14 8 (hp) Fp.z (slice_strI (C:=cfg m) (t:=9) (s:=c) (k:=IntKind.i64) (k':=IntKind.i64) (n:=(↑i:Int)) (m:=(↑i:Int) + (↑a.length:Int)) (hp:=hp) (by kernel_rfl) (by omega) (by omega) (by omega)), .b 14 10 (beq_false_of_ne (hq)), .w 13 1 IntKind.i64 ((↑i:Int) + 1) (wrap_i64' (by omega))] (by kernel_rfl) rfl
theorem nl_x {m:Int} {fl i:Nat} {hp:List Blk} {a b c:List UInt8} {f:Bool} (hi:c.length < i + a.length) (la:a.length≤12) (lc:c.length≤12) (hi2:i≤13):LoopI (cfg m) fl 5 (bodyAt (cfg m) 5 12) 12 ⟨nlSt a b c f i,hp⟩ (.exit 0) ⟨nlEnd a b c f,hp⟩:=by
 exact loopEndC (.exit 0) (St.mk ([J,J,J,J,J,J,J,TV.v (AV.bool true),TV.v (AV.str a),TV.v (AV.str b),TV.v (AV.str c),TV.v (AV.ptr 0 0),J,J,TV.v (AV.bool f)]++Jn 74) hp) [.w 12 3 IntKind.i64 ((↑i:Int) + (↑a.length:Int)) (wrap_i64' (by omega)), .b 12 6 (decide_eq_false ((show ¬(↑i:Int) + (↑a.length:Int)≤(↑c.length:Int) from (by omega))))] (by kernel_rfl) (fun h=>by cases h) rfl
theorem nl_0 {m:Int} {x y z:AV} {a b c:List UInt8} {g1:List Blk} {pl:Int} {f:Bool} (hex:evI (cfg m) 0 9 [] []=some (.bool true,[])) (hxa:evI (cfg m) 0 15 [x] []=some (.str a,[])) (hxb:evI (cfg m) 0 15 [y] []=some (.str b,[])) (hxc:evI (cfg m) 0 15 [z] []=some (.str c,[])) (la:a.length≤12) (lb:b.length≤12) (lc:c.length≤12) (hof:evI (cfg m) 0 12 [.str a] []=some (.tup [.ptr 0 0, .int .i64 pl, .int .i64 0],g1)) (hlp:LoopI (cfg m) 0 5 (bodyAt (cfg m) 5 12) 12 ⟨nlSt a b c false 0,g1⟩ (.exit 0) ⟨nlEnd a b c f,g1⟩) (w1:evI (cfg m) 0 13 [.ptr 0 0, .str b] g1=some (.bool (decide (a=b)),g1)) (w2:evI (cfg m) 0 13 [.ptr 0 0, .str a] g1=some (.bool true,g1)) (w3:evI (cfg m) 0 14 [.ptr 0 0, .str (b++a++c)] g1=some (.bool true,g1)) (w4:evI (cfg m) 0 14 [.ptr 0 0, .str c] g1=some (.bool f,g1)):evI (cfg m) 0 5 [x,y,z] []=some (.bool true,[]):=by
 by_cases h1:a=b
 ·rcases bcases (f) with h2 | h2
  ·exact evX (AV.bool true) (g1) [.c 1 0 hex, .c 4 1 hxa, .c 5 1 hxb, .c 6 1 hxc, .c 7 1 hof, .l 12 hlp, .cb 15 4 w1 (decide_eq_true h1), .b 15 7 (beq_iff_eq.2 (h1)), .c 15 13 w2, .v 15 19 (strOp_add (x:=b) (y:=a) (by omega)), .v 15 21 (strOp_add (x:=b++a) (y:=c) (by simp only [setAt_length,List.length_append,List.length_cons,List.length_nil,List.length_map] at *;omega)), .c 15 22 w3, .cb 15 27 w4 h2, .b 15 28 h2] (by kernel_rfl) (tlP (by kernel_rfl) rfl (shutT (v:=AV.bool true) (v':=AV.bool true) (by kernel_rfl))) rfl
  ·exact evX (AV.bool true) (g1) [.c 1 0 hex, .c 4 1 hxa, .c 5 1 hxb, .c 6 1 hxc, .c 7 1 hof, .l 12 hlp, .cb 15 4 w1 (decide_eq_true h1), .b 15 7 (beq_iff_eq.2 (h1)), .c 15 13 w2, .v 15 19 (strOp_add (x:=b) (y:=a) (by omega)), .v 15 21 (strOp_add (x:=b++a) (y:=c) (by simp only [setAt_length,List.length_append,List.length_cons,List.length_nil,List.length_map] at *;omega)), .c 15 22 w3, .cb 15 27 w4 h2, .b 15 28 h2] (by kernel_rfl) (tlP (by kernel_rfl) rfl (shutT (v:=AV.bool true) (v':=AV.bool true) (by kernel_rfl))) rfl
 ·rcases bcases (f) with h2 | h2
  ·exact evX (AV.bool true) (g1) [.c 1 0 hex, .c 4 1 hxa, .c 5 1 hxb, .c 6 1 hxc, .c 7 1 hof, .l 12 hlp, .cb 15 4 w1 (decide_eq_false h1), .b 15 7 (beq_false_of_ne (h1)), .c 15 13 w2, .v 15 19 (strOp_add (x:=b) (y:=a) (by omega)), .v 15 21 (strOp_add (x:=b++a) (y:=c) (by simp only [setAt_length,List.length_append,List.length_cons,List.length_nil,List.length_map] at *;omega)), .c 15 22 w3, .cb 15 27 w4 h2, .b 15 28 h2] (by kernel_rfl) (tlP (by kernel_rfl) rfl (shutT (v:=AV.bool true) (v':=AV.bool true) (by kernel_rfl))) rfl
  ·exact evX (AV.bool true) (g1) [.c 1 0 hex, .c 4 1 hxa, .c 5 1 hxb, .c 6 1 hxc, .c 7 1 hof, .l 12 hlp, .cb 15 4 w1 (decide_eq_false h1), .b 15 7 (beq_false_of_ne (h1)), .c 15 13 w2, .v 15 19 (strOp_add (x:=b) (y:=a) (by omega)), .v 15 21 (strOp_add (x:=b++a) (y:=c) (by simp only [setAt_length,List.length_append,List.length_cons,List.length_nil,List.length_map] at *;omega)), .c 15 22 w3, .cb 15 27 w4 h2, .b 15 28 h2] (by kernel_rfl) (tlP (by kernel_rfl) rfl (shutT (v:=AV.bool true) (v':=AV.bool true) (by kernel_rfl))) rfl
end Go.Proofs.YtanopbolgfcojaaGreatDoor.E.SZ
namespace Go.Proofs.YtanopbolgfcojaaGreatDoor.E.SZ
open Go Go.Proofs E E.R E.SZ.N
def ltC (c:UInt8):UInt8:=if c.toNat % 2=0 then 97 else 98
def ltT (bs:List UInt8):List UInt8:=(bs.take 12).map ltC
theorem ltT_len (bs:List UInt8):(ltT bs).length≤12:=by unfold ltT;rw [List.length_map,List.length_take];omega
theorem ltC_lit (c:UInt8):isLit (ltC c)=true:=by unfold ltC;split <;> decide
theorem ltT_lit (bs:List UInt8):∀ c ∈ ltT bs,isLit c=true:=fun c hc=>by
 unfold ltT at hc
 obtain ⟨d,_,rfl⟩:=List.mem_map.1 hc
 exact ltC_lit d
theorem lt_loop {m:Int} {fl:Nat} {l:AV} {bs:List UInt8} (hl:IsSl 1 l (bsV bs)):∀ (r:List UInt8) (i:Nat) (s:List UInt8) (o:AV) (hp:List Blk),(bs.take 12).drop i=r→i≤12→s.length + r.length≤12→fl≤hp.length→Gr fl 1 hp o (bsV s)→∃ hp' o',LoopI (cfg m) fl 15 (bodyAt (cfg m) 15 3) 3 ⟨leSt l o i,hp⟩ (.exit 0) ⟨leEnd o',hp'⟩∧Gr fl 1 hp' o' (bsV (s++r.map ltC))
 | [],i,s,o,hp,hd,hi,hs,hf,ho=>by
  have h1:(bs.take 12).length≤i:=by simpa using hd
  rw [List.length_take] at h1
  rw [List.map_nil,List.append_nil]
  exact ⟨hp,o,le_x hl (by omega) hi,ho⟩
 | c::r,i,s,o,hp,hd,hi,hs,hf,ho=>by
  have hq:(bs.take 12)[i]?=some c:=by have:=congrArg (·[0]?) hd;simpa using this
  have hlt:=(List.getElem?_eq_some_iff.1 hq).1
  rw [List.length_take] at hlt
  have hq2:bs[i]?=some c:=by rw [List.getElem?_take_of_lt (by omega)] at hq;exact hq
  have hd':(bs.take 12).drop (i + 1)=r:=by rw [← List.drop_drop,hd];rfl
  have hc:(bsV bs)[i]?=some (.int .u8 (c.toNat:Int)):=by rw [List.getElem?_map,hq2];rfl
  simp only [List.length_cons] at hs
  have e:∀ d,bsV s++[AV.int .u8 ((d:UInt8).toNat:Int)]=bsV (s++[d]):=fun d=>by simp [bsV]
  have key:∃ hp1 o1,LoopS (cfg m) fl 15 (bodyAt (cfg m) 15 3) 3 ⟨leSt l o i,hp⟩ ⟨leSt l o1 (i + 1),hp1⟩∧Gr fl 1 hp1 o1 (bsV (s++[ltC c]))∧FrC [] hp hp1:=by
   unfold ltC
   by_cases h2:c.toNat % 2=0
   ·rw [if_pos h2,← e]
    exact le_i0 hl hc (by omega) (by omega) ho (by simp [bsV];omega) hf (by show ((c.toNat % 2:Nat):Int)=0;omega)
   ·rw [if_neg h2,← e]
    exact le_i1 hl hc (by omega) (by omega) ho (by simp [bsV];omega) hf (by show ((c.toNat % 2:Nat):Int)=1;omega)
  obtain ⟨hp1,o1,k1,k2,k3⟩:=key
  obtain ⟨hp',o',g1,g2⟩:=lt_loop (m:=m) hl r (i + 1) (s++[ltC c]) o1 hp1 hd' (by omega) (by simp;omega) (Nat.le_trans hf k3.1) k2
  exact ⟨hp',o',k1 _ _ g1,by rw [List.map_cons,show s++ltC c::r.map ltC=s++[ltC c]++r.map ltC by simp];exact g2⟩
theorem letters_ok {m:Int} {fl:Nat} {hp:List Blk} {l:AV} {bs:List UInt8} (hl:IsSl 1 l (bsV bs)):evI (cfg m) fl 15 [l] hp=some (.str (ltT bs),hp):=by
 obtain ⟨hp',o',g1,g2⟩:=lt_loop (m:=m) (fl:=hp.length) hl (bs.take 12) 0 [] .nilS hp rfl (by omega) (by rw [List.length_take];simp;omega) (Nat.le_refl _) (Gr.nil _ _ _)
 exact le_ok g1 g2
def fndF (a c:List UInt8):Nat→Nat→Bool→Bool
 | 0,_,f=>f
 | k + 1,i,f=>if i + a.length≤c.length then fndF a c k (i + 1) (f||decide (At c a i)) else f
theorem fndF_iff {a c:List UInt8}:∀ (k i:Nat) (f:Bool),c.length < i + k→(fndF a c k i f=true↔f=true∨∃ j,i≤j∧j + a.length≤c.length∧At c a j)
 | 0,i,f,h=>by
  unfold fndF
  constructor
  ·exact .inl
  ·rintro (h1 | ⟨j,h1,h2,_⟩)
   ·exact h1
   ·omega
 | k + 1,i,f,h=>by
  unfold fndF
  split
  ·rename_i hi
   rw [fndF_iff k (i + 1) _ (by omega),Bool.or_eq_true,decide_eq_true_eq,or_assoc]
   constructor
   ·rintro (h1 | h1 | ⟨j,h1,h2⟩)
    ·exact .inl h1
    ·exact .inr ⟨i,Nat.le_refl _,hi,h1⟩
    ·exact .inr ⟨j,by omega,h2⟩
   ·rintro (h1 | ⟨j,h1,h2,h3⟩)
    ·exact .inl h1
    ·by_cases e:j=i
     ·subst e;exact .inr (.inl h3)
     ·exact .inr (.inr ⟨j,by omega,h2,h3⟩)
  ·rename_i hi
   constructor
   ·exact .inl
   ·rintro (h1 | ⟨j,h1,h2,_⟩)
    ·exact h1
    ·omega
theorem fnd_loop {m:Int} {fl:Nat} {hp:List Blk} {a b c:List UInt8} (la:a.length≤12) (lc:c.length≤12):∀ (k i:Nat) (f:Bool),c.length < i + k→i≤13→LoopI (cfg m) fl 5 (bodyAt (cfg m) 5 12) 12 ⟨nlSt a b c f i,hp⟩ (.exit 0) ⟨nlEnd a b c (fndF a c k i f),hp⟩
 | 0,i,f,h,h2=>nl_x (by omega) la lc h2
 | k + 1,i,f,h,h2=>by
  unfold fndF
  split
  ·rename_i hi
   have ih:=fnd_loop (m:=m) (fl:=fl) (hp:=hp) (b:=b) la lc k (i + 1) (f||decide (At c a i)) (by omega) (by omega)
   cases f with
   | true=>exact nl_i1 hi la lc _ _ (by simpa using ih)
   | false =>
    have e:((i:Int) + (a.length:Int)).toNat - i=a.length:=by omega
    by_cases hq:At c a i
    ·rw [decide_eq_true hq] at ih ⊢
     exact nl_i2 hi la lc (by rw [e];exact hq) _ _ ih
    ·rw [decide_eq_false hq] at ih ⊢
     exact nl_i3 hi la lc (by rw [e];exact hq) _ _ ih
  ·rename_i hi
   exact nl_x (by omega) la lc h2
theorem letters_law {m:Int} {x y z:AV} {bx bY bz:List UInt8} (hx:IsSl 1 x (bsV bx)) (hy:IsSl 1 y (bsV bY)) (hz:IsSl 1 z (bsV bz)):evI (cfg m) 0 5 [x,y,z] []=some (.bool true,[]):=by
 have xa:=letters_ok (m:=m) (fl:=0) (hp:=[]) hx
 have xb:=letters_ok (m:=m) (fl:=0) (hp:=[]) hy
 have xc:=letters_ok (m:=m) (fl:=0) (hp:=[]) hz
 have la:=ltT_len bx
 have lb:=ltT_len bY
 have lc:=ltT_len bz
 have lit:=ltT_lit bx
 generalize ltT bx=a at *
 generalize ltT bY=b at *
 generalize ltT bz=c at *
 have hp:=plain_parse (l:=a) (by omega)
 rw [plain_lits _ lit] at hp
 obtain ⟨g1,of1,p,c1,_⟩:=of_M (m:=m) (fl:=0) (hp:=[]) hp rfl (Nat.zero_le _)
 obtain ⟨b1,w1,i1⟩:=whole_prg (m:=m) (fl:=0) (s:=b) p (by omega)
 obtain ⟨b2,w2,i2⟩:=whole_prg (m:=m) (fl:=0) (s:=a) p (by omega)
 obtain ⟨b3,w3,i3⟩:=find_prg (m:=m) (fl:=0) (s:=b++a++c) p (by simp;omega)
 obtain ⟨b4,w4,i4⟩:=find_prg (m:=m) (fl:=0) (s:=c) p (by omega)
 rw [LN_plain] at i1 i2
 rw [find_plain] at i3 i4
 have e1:b1=decide (a=b):=by
  rw [Bool.eq_iff_iff,i1,decide_eq_true_eq];exact At_zero
 have e2:b2=true:=i2.2 (At_zero.2 rfl)
 have e3:b3=true:=i3.2 ⟨b.length,by simp,At_mid b a c⟩
 have e4:b4=fndF a c (c.length + 1) 0 false:=by
  rw [Bool.eq_iff_iff,i4,fndF_iff _ _ _ (by omega)]
  constructor
  ·rintro ⟨i,h⟩;exact .inr ⟨i,Nat.zero_le _,h⟩
  ·rintro (h | ⟨i,_,h⟩)
   ·cases h
   ·exact ⟨i,h⟩
 subst e1 e2 e3 e4
 exact nl_0 ex0 xa xb xc la lb lc of1 (fnd_loop la lc _ _ _ (by omega) (by omega)) w1 w2 w3 w4
theorem letters_all (x y z:AV) (hx:Sh (cfg 0) 6 22 x) (hy:Sh (cfg 0) 6 22 y) (hz:Sh (cfg 0) 6 22 z):evI (cfg 0) 0 5 [x,y,z] []=some (.bool true,[]):=by
 obtain ⟨b1,h1⟩:=bytes_of hx
 obtain ⟨b2,h2⟩:=bytes_of hy
 obtain ⟨b3,h3⟩:=bytes_of hz
 exact letters_law h1 h2 h3
end Go.Proofs.YtanopbolgfcojaaGreatDoor.E.SZ
namespace Go.Proofs.YtanopbolgfcojaaGreatDoor.E.SZ
open Go Go.Proofs E E.R
theorem na_1 {m:Int} {x y z:AV} {a b c:List UInt8} {g1 g2 g3:List Blk} {n1 n2:Nat} {p1 p2 p3:Int} (hex:evI (cfg m) 0 9 [] []=some (.bool true,[])) (hxa:evI (cfg m) 0 15 [x] []=some (.str a,[])) (hxb:evI (cfg m) 0 15 [y] []=some (.str b,[])) (hxc:evI (cfg m) 0 15 [z] []=some (.str c,[])) (la:a.length≤12) (lb:b.length≤12) (lc:c.length≤12) (e1:b++a++c=a) (e2:List.take a.length (b++a++c)=a) (e3:List.drop (((b++a++c).length:Int) - (a.length:Int)).toNat (b++a++c)=a) (o1:evI (cfg m) 0 12 [.str ([94]++a++[36])] []=some (.tup [.ptr 0 0, .int .i64 p1, .int .i64 0],g1)) (o2:evI (cfg m) 0 12 [.str ([94]++a)] g1=some (.tup [.ptr n1 0, .int .i64 p2, .int .i64 0],g2)) (o3:evI (cfg m) 0 12 [.str (a++[36])] g2=some (.tup [.ptr n2 0, .int .i64 p3, .int .i64 0],g3)) (w1:evI (cfg m) 0 14 [.ptr 0 0, .str (b++a++c)] g3=some (.bool true,g3)) (w2:evI (cfg m) 0 14 [.ptr n1 0, .str (b++a++c)] g3=some (.bool true,g3)) (w3:evI (cfg m) 0 14 [.ptr n2 0, .str (b++a++c)] g3=some (.bool true,g3)) (w4:evI (cfg m) 0 13 [.ptr 0 0, .str a] g3=some (.bool true,g3)) (w5:evI (cfg m) 0 14 [.ptr n1 0, .str (a++c)] g3=some (.bool true,g3)) (w6:evI (cfg m) 0 14 [.ptr n2 0, .str (b++a)] g3=some (.bool true,g3)):evI (cfg m) 0 7 [x,y,z] []=some (.bool true,[]):=by
 exact evX (AV.bool true) (g3) [.c 1 0 hex, .c 4 1 hxa, .c 5 1 hxb, .c 6 1 hxc, .v 7 1 (strOp_add (x:=[94]) (y:=a) (by simp only [setAt_length,List.length_append,List.length_cons,List.length_nil,List.length_map] at *;omega)), .v 7 2 (strOp_add (x:=[94]++a) (y:=[36]) (by simp only [setAt_length,List.length_append,List.length_cons,List.length_nil,List.length_map] at *;omega)), .c 7 3 o1, .v 8 1 (strOp_add (x:=[94]) (y:=a) (by simp only [setAt_length,List.length_append,List.length_cons,List.length_nil,List.length_map] at *;omega)), .c 8 2 o2, .v 9 1 (strOp_add (x:=a) (y:=[36]) (by simp only [setAt_length,List.length_append,List.length_cons,List.length_nil,List.length_map] at *;omega)), .c 9 2 o3, .v 12 2 (strOp_add (x:=b) (y:=a) (by omega)), .v 12 4 (strOp_add (x:=b++a) (y:=c) (by simp only [setAt_length,List.length_append,List.length_cons,List.length_nil,List.length_map] at *;omega)), .s 13 3 (g3) Fp.z (slice_str_toI (C:=cfg m) (t:=9) (s:=b++a++c) (k':=IntKind.i64) (m:=(↑a.length:Int)) (hp:=g3) (by kernel_rfl) (by omega) (by simp only [setAt_length,List.length_append,List.length_cons,List.length_nil,List.length_map] at *;omega)), .b 13 5 (beq_iff_eq.2 (e2)), .w 14 5 IntKind.i64 ((↑(b++a++c).length:Int) - (↑a.length:Int)) (wrap_i64' (by simp only [setAt_length,List.length_append,List.length_cons,List.length_nil,List.length_map] at *;omega)), .s 14 6 (g3) Fp.z (slice_str_fromI (C:=cfg m) (t:=9) (s:=b++a++c) (k:=IntKind.i64) (n:=(↑(b++a++c).length:Int) - (↑a.length:Int)) (hp:=g3) (by kernel_rfl) (by simp only [setAt_length,List.length_append,List.length_cons,List.length_nil,List.length_map] at *;omega) (by omega)), .b 14 8 (beq_iff_eq.2 (e3)), .c 15 4 w1, .b 15 7 (beq_iff_eq.2 (e1)), .c 15 13 w2, .c 15 20 w3, .c 15 27 w4, .v 15 33 (strOp_add (x:=a) (y:=c) (by omega)), .c 15 34 w5, .v 15 40 (strOp_add (x:=b) (y:=a) (by omega)), .c 15 41 w6] (by kernel_rfl) (tlP (by kernel_rfl) rfl (shutT (v:=AV.bool true) (v':=AV.bool true) (by kernel_rfl))) rfl
theorem na_2 {m:Int} {x y z:AV} {a b c:List UInt8} {g1 g2 g3:List Blk} {n1 n2:Nat} {p1 p2 p3:Int} (hex:evI (cfg m) 0 9 [] []=some (.bool true,[])) (hxa:evI (cfg m) 0 15 [x] []=some (.str a,[])) (hxb:evI (cfg m) 0 15 [y] []=some (.str b,[])) (hxc:evI (cfg m) 0 15 [z] []=some (.str c,[])) (la:a.length≤12) (lb:b.length≤12) (lc:c.length≤12) (e1:¬ (b++a++c=a)) (e2:List.take a.length (b++a++c)=a) (e3:List.drop (((b++a++c).length:Int) - (a.length:Int)).toNat (b++a++c)=a) (o1:evI (cfg m) 0 12 [.str ([94]++a++[36])] []=some (.tup [.ptr 0 0, .int .i64 p1, .int .i64 0],g1)) (o2:evI (cfg m) 0 12 [.str ([94]++a)] g1=some (.tup [.ptr n1 0, .int .i64 p2, .int .i64 0],g2)) (o3:evI (cfg m) 0 12 [.str (a++[36])] g2=some (.tup [.ptr n2 0, .int .i64 p3, .int .i64 0],g3)) (w1:evI (cfg m) 0 14 [.ptr 0 0, .str (b++a++c)] g3=some (.bool false,g3)) (w2:evI (cfg m) 0 14 [.ptr n1 0, .str (b++a++c)] g3=some (.bool true,g3)) (w3:evI (cfg m) 0 14 [.ptr n2 0, .str (b++a++c)] g3=some (.bool true,g3)) (w4:evI (cfg m) 0 13 [.ptr 0 0, .str a] g3=some (.bool true,g3)) (w5:evI (cfg m) 0 14 [.ptr n1 0, .str (a++c)] g3=some (.bool true,g3)) (w6:evI (cfg m) 0 14 [.ptr n2 0, .str (b++a)] g3=some (.bool true,g3)):evI (cfg m) 0 7 [x,y,z] []=some (.bool true,[]):=by
 exact evX (AV.bool true) (g3) [.c 1 0 hex, .c 4 1 hxa, .c 5 1 hxb, .c 6 1 hxc, .v 7 1 (strOp_add (x:=[94]) (y:=a) (by simp only [setAt_length,List.length_append,List.length_cons,List.length_nil,List.length_map] at *;omega)), .v 7 2 (strOp_add (x:=[94]++a) (y:=[36]) (by simp only [setAt_length,List.length_append,List.length_cons,List.length_nil,List.length_map] at *;omega)), .c 7 3 o1, .v 8 1 (strOp_add (x:=[94]) (y:=a) (by simp only [setAt_length,List.length_append,List.length_cons,List.length_nil,List.length_map] at *;omega)), .c 8 2 o2, .v 9 1 (strOp_add (x:=a) (y:=[36]) (by simp only [setAt_length,List.length_append,List.length_cons,List.length_nil,List.length_map] at *;omega)), .c 9 2 o3, .v 12 2 (strOp_add (x:=b) (y:=a) (by omega)), .v 12 4 (strOp_add (x:=b++a) (y:=c) (by simp only [setAt_length,List.length_append,List.length_cons,List.length_nil,List.length_map] at *;omega)), .s 13 3 (g3) Fp.z (slice_str_toI (C:=cfg m) (t:=9) (s:=b++a++c) (k':=IntKind.i64) (m:=(↑a.length:Int)) (hp:=g3) (by kernel_rfl) (by omega) (by simp only [setAt_length,List.length_append,List.length_cons,List.length_nil,List.length_map] at *;omega)), .b 13 5 (beq_iff_eq.2 (e2)), .w 14 5 IntKind.i64 ((↑(b++a++c).length:Int) - (↑a.length:Int)) (wrap_i64' (by simp only [setAt_length,List.length_append,List.length_cons,List.length_nil,List.length_map] at *;omega)), .s 14 6 (g3) Fp.z (slice_str_fromI (C:=cfg m) (t:=9) (s:=b++a++c) (k:=IntKind.i64) (n:=(↑(b++a++c).length:Int) - (↑a.length:Int)) (hp:=g3) (by kernel_rfl) (by simp only [setAt_length,List.length_append,List.length_cons,List.length_nil,List.length_map] at *;omega) (by omega)), .b 14 8 (beq_iff_eq.2 (e3)), .c 15 4 w1, .b 15 7 (beq_false_of_ne (e1)), .c 15 13 w2, .c 15 20 w3, .c 15 27 w4, .v 15 33 (strOp_add (x:=a) (y:=c) (by omega)), .c 15 34 w5, .v 15 40 (strOp_add (x:=b) (y:=a) (by omega)), .c 15 41 w6] (by kernel_rfl) (tlP (by kernel_rfl) rfl (shutT (v:=AV.bool true) (v':=AV.bool true) (by kernel_rfl))) rfl
theorem na_3 {m:Int} {x y z:AV} {a b c:List UInt8} {g1 g2 g3:List Blk} {n1 n2:Nat} {p1 p2 p3:Int} (hex:evI (cfg m) 0 9 [] []=some (.bool true,[])) (hxa:evI (cfg m) 0 15 [x] []=some (.str a,[])) (hxb:evI (cfg m) 0 15 [y] []=some (.str b,[])) (hxc:evI (cfg m) 0 15 [z] []=some (.str c,[])) (la:a.length≤12) (lb:b.length≤12) (lc:c.length≤12) (e1:¬ (b++a++c=a)) (e2:List.take a.length (b++a++c)=a) (e3:¬ (List.drop (((b++a++c).length:Int) - (a.length:Int)).toNat (b++a++c)=a)) (o1:evI (cfg m) 0 12 [.str ([94]++a++[36])] []=some (.tup [.ptr 0 0, .int .i64 p1, .int .i64 0],g1)) (o2:evI (cfg m) 0 12 [.str ([94]++a)] g1=some (.tup [.ptr n1 0, .int .i64 p2, .int .i64 0],g2)) (o3:evI (cfg m) 0 12 [.str (a++[36])] g2=some (.tup [.ptr n2 0, .int .i64 p3, .int .i64 0],g3)) (w1:evI (cfg m) 0 14 [.ptr 0 0, .str (b++a++c)] g3=some (.bool false,g3)) (w2:evI (cfg m) 0 14 [.ptr n1 0, .str (b++a++c)] g3=some (.bool true,g3)) (w3:evI (cfg m) 0 14 [.ptr n2 0, .str (b++a++c)] g3=some (.bool false,g3)) (w4:evI (cfg m) 0 13 [.ptr 0 0, .str a] g3=some (.bool true,g3)) (w5:evI (cfg m) 0 14 [.ptr n1 0, .str (a++c)] g3=some (.bool true,g3)) (w6:evI (cfg m) 0 14 [.ptr n2 0, .str (b++a)] g3=some (.bool true,g3)):evI (cfg m) 0 7 [x,y,z] []=some (.bool true,[]):=by
 exact evX (AV.bool true) (g3) [.c 1 0 hex, .c 4 1 hxa, .c 5 1 hxb, .c 6 1 hxc, .v 7 1 (strOp_add (x:=[94]) (y:=a) (by simp only [setAt_length,List.length_append,List.length_cons,List.length_nil,List.length_map] at *;omega)), .v 7 2 (strOp_add (x:=[94]++a) (y:=[36]) (by simp only [setAt_length,List.length_append,List.length_cons,List.length_nil,List.length_map] at *;omega)), .c 7 3 o1, .v 8 1 (strOp_add (x:=[94]) (y:=a) (by simp only [setAt_length,List.length_append,List.length_cons,List.length_nil,List.length_map] at *;omega)), .c 8 2 o2, .v 9 1 (strOp_add (x:=a) (y:=[36]) (by simp only [setAt_length,List.length_append,List.length_cons,List.length_nil,List.length_map] at *;omega)), .c 9 2 o3, .v 12 2 (strOp_add (x:=b) (y:=a) (by omega)), .v 12 4 (strOp_add (x:=b++a) (y:=c) (by simp only [setAt_length,List.length_append,List.length_cons,List.length_nil,List.length_map] at *;omega)), .s 13 3 (g3) Fp.z (slice_str_toI (C:=cfg m) (t:=9) (s:=b++a++c) (k':=IntKind.i64) (m:=(↑a.length:Int)) (hp:=g3) (by kernel_rfl) (by omega) (by simp only [setAt_length,List.length_append,List.length_cons,List.length_nil,List.length_map] at *;omega)), .b 13 5 (beq_iff_eq.2 (e2)), .w 14 5 IntKind.i64 ((↑(b++a++c).length:Int) - (↑a.length:Int)) (wrap_i64' (by simp only [setAt_length,List.length_append,List.length_cons,List.length_nil,List.length_map] at *;omega)), .s 14 6 (g3) Fp.z (slice_str_fromI (C:=cfg m) (t:=9) (s:=b++a++c) (k:=IntKind.i64) (n:=(↑(b++a++c).length:Int) - (↑a.length:Int)) (hp:=g3) (by kernel_rfl) (by simp only [setAt_length,List.length_append,List.length_cons,List.length_nil,List.length_map] at *;omega) (by omega)), .b 14 8 (beq_false_of_ne (e3)), .c 15 4 w1, .b 15 7 (beq_false_of_ne (e1)), .c 15 13 w2, .c 15 20 w3, .c 15 27 w4, .v 15 33 (strOp_add (x:=a) (y:=c) (by omega)), .c 15 34 w5, .v 15 40 (strOp_add (x:=b) (y:=a) (by omega)), .c 15 41 w6] (by kernel_rfl) (tlP (by kernel_rfl) rfl (shutT (v:=AV.bool true) (v':=AV.bool true) (by kernel_rfl))) rfl
theorem na_4 {m:Int} {x y z:AV} {a b c:List UInt8} {g1 g2 g3:List Blk} {n1 n2:Nat} {p1 p2 p3:Int} (hex:evI (cfg m) 0 9 [] []=some (.bool true,[])) (hxa:evI (cfg m) 0 15 [x] []=some (.str a,[])) (hxb:evI (cfg m) 0 15 [y] []=some (.str b,[])) (hxc:evI (cfg m) 0 15 [z] []=some (.str c,[])) (la:a.length≤12) (lb:b.length≤12) (lc:c.length≤12) (e1:¬ (b++a++c=a)) (e2:¬ (List.take a.length (b++a++c)=a)) (e3:List.drop (((b++a++c).length:Int) - (a.length:Int)).toNat (b++a++c)=a) (o1:evI (cfg m) 0 12 [.str ([94]++a++[36])] []=some (.tup [.ptr 0 0, .int .i64 p1, .int .i64 0],g1)) (o2:evI (cfg m) 0 12 [.str ([94]++a)] g1=some (.tup [.ptr n1 0, .int .i64 p2, .int .i64 0],g2)) (o3:evI (cfg m) 0 12 [.str (a++[36])] g2=some (.tup [.ptr n2 0, .int .i64 p3, .int .i64 0],g3)) (w1:evI (cfg m) 0 14 [.ptr 0 0, .str (b++a++c)] g3=some (.bool false,g3)) (w2:evI (cfg m) 0 14 [.ptr n1 0, .str (b++a++c)] g3=some (.bool false,g3)) (w3:evI (cfg m) 0 14 [.ptr n2 0, .str (b++a++c)] g3=some (.bool true,g3)) (w4:evI (cfg m) 0 13 [.ptr 0 0, .str a] g3=some (.bool true,g3)) (w5:evI (cfg m) 0 14 [.ptr n1 0, .str (a++c)] g3=some (.bool true,g3)) (w6:evI (cfg m) 0 14 [.ptr n2 0, .str (b++a)] g3=some (.bool true,g3)):evI (cfg m) 0 7 [x,y,z] []=some (.bool true,[]):=by
 exact evX (AV.bool true) (g3) [.c 1 0 hex, .c 4 1 hxa, .c 5 1 hxb, .c 6 1 hxc, .v 7 1 (strOp_add (x:=[94]) (y:=a) (by simp only [setAt_length,List.length_append,List.length_cons,List.length_nil,List.length_map] at *;omega)), .v 7 2 (strOp_add (x:=[94]++a) (y:=[36]) (by simp only [setAt_length,List.length_append,List.length_cons,List.length_nil,List.length_map] at *;omega)), .c 7 3 o1, .v 8 1 (strOp_add (x:=[94]) (y:=a) (by simp only [setAt_length,List.length_append,List.length_cons,List.length_nil,List.length_map] at *;omega)), .c 8 2 o2, .v 9 1 (strOp_add (x:=a) (y:=[36]) (by simp only [setAt_length,List.length_append,List.length_cons,List.length_nil,List.length_map] at *;omega)), .c 9 2 o3, .v 12 2 (strOp_add (x:=b) (y:=a) (by omega)), .v 12 4 (strOp_add (x:=b++a) (y:=c) (by simp only [setAt_length,List.length_append,List.length_cons,List.length_nil,List.length_map] at *;omega)), .s 13 3 (g3) Fp.z (slice_str_toI (C:=cfg m) (t:=9) (s:=b++a++c) (k':=IntKind.i64) (m:=(↑a.length:Int)) (hp:=g3) (by kernel_rfl) (by omega) (by simp only [setAt_length,List.length_append,List.length_cons,List.length_nil,List.length_map] at *;omega)), .b 13 5 (beq_false_of_ne (e2)), .w 14 5 IntKind.i64 ((↑(b++a++c).length:Int) - (↑a.length:Int)) (wrap_i64' (by simp only [setAt_length,List.length_append,List.length_cons,List.length_nil,List.length_map] at *;omega)), .s 14 6 (g3) Fp.z (slice_str_fromI (C:=cfg m) (t:=9) (s:=b++a++c) (k:=IntKind.i64) (n:=(↑(b++a++c).length:Int) - (↑a.length:Int)) (hp:=g3) (by kernel_rfl) (by simp only [setAt_length,List.length_append,List.length_cons,List.length_nil,List.length_map] at *;omega) (by omega)), .b 14 8 (beq_iff_eq.2 (e3)), .c 15 4 w1, .b 15 7 (beq_false_of_ne (e1)), .c 15 13 w2, .c 15 20 w3, .c 15 27 w4, .v 15 33 (strOp_add (x:=a) (y:=c) (by omega)), .c 15 34 w5, .v 15 40 (strOp_add (x:=b) (y:=a) (by omega)), .c 15 41 w6] (by kernel_rfl) (tlP (by kernel_rfl) rfl (shutT (v:=AV.bool true) (v':=AV.bool true) (by kernel_rfl))) rfl
theorem na_5 {m:Int} {x y z:AV} {a b c:List UInt8} {g1 g2 g3:List Blk} {n1 n2:Nat} {p1 p2 p3:Int} (hex:evI (cfg m) 0 9 [] []=some (.bool true,[])) (hxa:evI (cfg m) 0 15 [x] []=some (.str a,[])) (hxb:evI (cfg m) 0 15 [y] []=some (.str b,[])) (hxc:evI (cfg m) 0 15 [z] []=some (.str c,[])) (la:a.length≤12) (lb:b.length≤12) (lc:c.length≤12) (e1:¬ (b++a++c=a)) (e2:¬ (List.take a.length (b++a++c)=a)) (e3:¬ (List.drop (((b++a++c).length:Int) - (a.length:Int)).toNat (b++a++c)=a)) (o1:evI (cfg m) 0 12 [.str ([94]++a++[36])] []=some (.tup [.ptr 0 0, .int .i64 p1, .int .i64 0],g1)) (o2:evI (cfg m) 0 12 [.str ([94]++a)] g1=some (.tup [.ptr n1 0, .int .i64 p2, .int .i64 0],g2)) (o3:evI (cfg m) 0 12 [.str (a++[36])] g2=some (.tup [.ptr n2 0, .int .i64 p3, .int .i64 0],g3)) (w1:evI (cfg m) 0 14 [.ptr 0 0, .str (b++a++c)] g3=some (.bool false,g3)) (w2:evI (cfg m) 0 14 [.ptr n1 0, .str (b++a++c)] g3=some (.bool false,g3)) (w3:evI (cfg m) 0 14 [.ptr n2 0, .str (b++a++c)] g3=some (.bool false,g3)) (w4:evI (cfg m) 0 13 [.ptr 0 0, .str a] g3=some (.bool true,g3)) (w5:evI (cfg m) 0 14 [.ptr n1 0, .str (a++c)] g3=some (.bool true,g3)) (w6:evI (cfg m) 0 14 [.ptr n2 0, .str (b++a)] g3=some (.bool true,g3)):evI (cfg m) 0 7 [x,y,z] []=some (.bool true,[]):=by
 exact evX (AV.bool true) (g3) [.c 1 0 hex, .c 4 1 hxa, .c 5 1 hxb, .c 6 1 hxc, .v 7 1 (strOp_add (x:=[94]) (y:=a) (by simp only [setAt_length,List.length_append,List.length_cons,List.length_nil,List.length_map] at *;omega)), .v 7 2 (strOp_add (x:=[94]++a) (y:=[36]) (by simp only [setAt_length,List.length_append,List.length_cons,List.length_nil,List.length_map] at *;omega)), .c 7 3 o1, .v 8 1 (strOp_add (x:=[94]) (y:=a) (by simp only [setAt_length,List.length_append,List.length_cons,List.length_nil,List.length_map] at *;omega)), .c 8 2 o2, .v 9 1 (strOp_add (x:=a) (y:=[36]) (by simp only [setAt_length,List.length_append,List.length_cons,List.length_nil,List.length_map] at *;omega)), .c 9 2 o3, .v 12 2 (strOp_add (x:=b) (y:=a) (by omega)), .v 12 4 (strOp_add (x:=b++a) (y:=c) (by simp only [setAt_length,List.length_append,List.length_cons,List.length_nil,List.length_map] at *;omega)), .s 13 3 (g3) Fp.z (slice_str_toI (C:=cfg m) (t:=9) (s:=b++a++c) (k':=IntKind.i64) (m:=(↑a.length:Int)) (hp:=g3) (by kernel_rfl) (by omega) (by simp only [setAt_length,List.length_append,List.length_cons,List.length_nil,List.length_map] at *;omega)), .b 13 5 (beq_false_of_ne (e2)), .w 14 5 IntKind.i64 ((↑(b++a++c).length:Int) - (↑a.length:Int)) (wrap_i64' (by simp only [setAt_length,List.length_append,List.length_cons,List.length_nil,List.length_map] at *;omega)), .s 14 6 (g3) Fp.z (slice_str_fromI (C:=cfg m) (t:=9) (s:=b++a++c) (k:=IntKind.i64) (n:=(↑(b++a++c).length:Int) - (↑a.length:Int)) (hp:=g3) (by kernel_rfl) (by simp only [setAt_length,List.length_append,List.length_cons,List.length_nil,List.length_map] at *;omega) (by omega)), .b 14 8 (beq_false_of_ne (e3)), .c 15 4 w1, .b 15 7 (beq_false_of_ne (e1)), .c 15 13 w2, .c 15 20 w3, .c 15 27 w4, .v 15 33 (strOp_add (x:=a) (y:=c) (by omega)), .c 15 34 w5, .v 15 40 (strOp_add (x:=b) (y:=a) (by omega)), .c 15 41 w6] (by kernel_rfl) (tlP (by kernel_rfl) rfl (shutT (v:=AV.bool true) (v':=AV.bool true) (by kernel_rfl))) rfl
end Go.Proofs.YtanopbolgfcojaaGreatDoor.E.SZ
namespace Go.Proofs.YtanopbolgfcojaaGreatDoor.E.SZ
open Go Go.Proofs E E.R E.SZ.N
def begN:Node := .mk 2 W4.zero 0 0 []
def finN:Node := .mk 3 W4.zero 0 0 []
def ancN (p q:Bool) (a:List UInt8):Node:=catF ((bif p then [begN] else [])++a.map oneB++(bif q then [finN] else []))
def ancT (p q:Bool) (a:List UInt8):List UInt8:=(bif p then [94] else [])++a++(bif q then [36] else [])
theorem anc_mem {p q:Bool} {a:List UInt8}:∀ n ∈ (bif p then [begN] else [])++a.map oneB++(bif q then [finN] else []),NormE n:=fun n hn=>by
 rcases List.mem_append.1 hn with hn | hn
 ·rcases List.mem_append.1 hn with hn | hn
  ·cases p
   ·cases hn
   ·rw [List.mem_singleton.1 hn];exact beg_norm
  ·exact ones_norm n hn
 ·cases q
  ·cases hn
  ·rw [List.mem_singleton.1 hn];exact fin_norm
theorem one_lit {c:UInt8} (h:isLit c=true) (t:List UInt8):atomL rdA (c::t)=some (oneB c,t):=by
 unfold atomL
 dsimp only
 rw [if_neg (lit_ne h (by decide)),if_neg (lit_ne h (by decide)),if_neg (lit_ne h (by decide)),if_neg (lit_ne h (by decide)),if_neg (lit_ne h (by decide)),if_neg (lit_ne h (by decide)),if_neg (sp_of h)]
 rfl
theorem rdP_lit {c:UInt8} (h:isLit c=true) {t:List UInt8} (hq:quant (t.headD 0)=false):rdP (c::t)=some (oneB c,t):=by
 unfold rdP pieceL
 rw [one_lit h]
 exact times_no hq
theorem rdP_beg {t:List UInt8} (hq:quant (t.headD 0)=false):rdP (94::t)=some (begN,t):=by
 unfold rdP pieceL
 rw [show atomL rdA (94::t)=some (begN,t) from rfl]
 exact times_no hq
theorem rdP_fin {t:List UInt8} (hq:quant (t.headD 0)=false):rdP (36::t)=some (finN,t):=by
 unfold rdP pieceL
 rw [show atomL rdA (36::t)=some (finN,t) from rfl]
 exact times_no hq
theorem rdO_step {A O:List Node} {c:UInt8} {t:List UInt8} {n:Node} (h1:c≠41) (h2:c≠124) (h:rdP (c::t)=some (n,t)):rdO A O (c::t)=rdO A (O++[n]) t:=by
 rw [rdO_eq,if_neg (by rintro (h | h);cases h;exact absurd h h1),if_neg (show ¬ (c::t).headD 0=124 from h2),h]
theorem anc_q {a:List UInt8} {q:Bool} (h:∀ c ∈ a,isLit c=true):quant ((a++(bif q then [36] else [])).headD 0)=false:=by
 cases a with
 | nil=>cases q <;> decide
 | cons c a=>exact lit_quant (h c (by simp))
theorem anc_lits {q:Bool}:∀ (a:List UInt8) (O:List Node),(∀ c ∈ a,isLit c=true)→rdO [] O (a++(bif q then [36] else []))=some ([],O++a.map oneB++(bif q then [finN] else []),[])
 | [],O,_=>by
  cases q
  ·show rdO [] O []=some ([],O++[]++[],[])
   rw [rdO_end (.inl rfl)];simp
  ·show rdO [] O [36]=some ([],O++[]++[finN],[])
   rw [rdO_step (by decide) (by decide) (rdP_fin rfl),rdO_end (.inl rfl)];simp
 | c::a,O,h=>by
  have hc:=h c (by simp)
  have hr:=fun d hd=>h d (List.mem_cons_of_mem c hd)
  show rdO [] O (c::(a++(bif q then [36] else [])))=_
  rw [rdO_step (lit_ne hc (by decide)) (lit_ne hc (by decide)) (rdP_lit hc (anc_q hr)),anc_lits a _ hr]
  simp
theorem anc_rd {p q:Bool} {a:List UInt8} (h:∀ c ∈ a,isLit c=true):rdA (ancT p q a)=some (ancN p q a,[]):=by
 have key:rdO [] [] (ancT p q a)=some ([],(bif p then [begN] else [])++a.map oneB++(bif q then [finN] else []),[]):=by
  cases p
  ·exact anc_lits a [] h
  ·show rdO [] [] (94::(a++(bif q then [36] else [])))=_
   rw [rdO_step (by decide) (by decide) (rdP_beg (anc_q h)),anc_lits a _ h]
   rfl
 rw [rdA_eq,key]
 rfl
theorem LN_anc {s:List UInt8} {p q:Bool} {a:List UInt8}:LN s (ancN p q a)=fun i j=>(p=true→i=0)∧At s a i∧j=i + a.length∧(q=true→j=s.length):=by
 funext i j
 apply propext
 unfold ancN
 rw [LN_catF anc_mem,CatL_app]
 have e1:∀ m,CatL (LN s) ((bif p then [begN] else [])++a.map oneB) i m↔(p=true→i=0)∧At s a i∧m=i + a.length:=fun m=>by
  rw [CatL_app]
  cases p
  ·simp only [cond_false rfl,CatL,CatL_ones]
   constructor
   ·rintro ⟨b,rfl,h⟩;exact ⟨fun h=>by simp at h,h⟩
   ·rintro ⟨_,h⟩;exact ⟨i,rfl,h⟩
  ·simp only [cond_true rfl,CatL_one,CatL_ones]
   rw [show LN s begN=_ from LN_beg]
   constructor
   ·rintro ⟨b,⟨h1,rfl⟩,h⟩;exact ⟨fun _=>h1,h⟩
   ·rintro ⟨h1,h⟩;exact ⟨i,⟨h1 trivial,rfl⟩,h⟩
 constructor
 ·rintro ⟨m,h1,h2⟩
  obtain ⟨g1,g2,g3⟩:=(e1 m).1 h1
  cases q
  ·obtain rfl:m=j:=h2
   exact ⟨g1,g2,g3,fun h=>by simp at h⟩
  ·rw [cond_true rfl,CatL_one,show LN s finN=_ from LN_fin] at h2
   obtain ⟨h3,rfl⟩:=h2
   exact ⟨g1,g2,g3,fun _=>h3⟩
 ·rintro ⟨g1,g2,g3,g4⟩
  refine ⟨j,(e1 j).2 ⟨g1,g2,g3⟩, ?_⟩
  cases q
  ·rfl
  ·rw [cond_true rfl,CatL_one,show LN s finN=_ from LN_fin]
   exact ⟨g4 rfl,rfl⟩
theorem anc_size {p q:Bool} {a:List UInt8} (h:a.length≤12):(ancN p q a).size≤200:=by
 have key:∀ (l:List Node),(∀ n ∈ l,n.size=1)→l.length≤14→sumC (l.map Node.size) 0≤200:=fun l hl hn=>by
  have e:l.map Node.size=List.replicate l.length 1:=by
   rw [List.eq_replicate_iff]
   refine ⟨by simp,fun x hx => ?_⟩
   obtain ⟨n,hn,rfl⟩:=List.mem_map.1 hx
   exact hl n hn
  rw [e,sumC_ones _ _ (by omega) (by omega)]
  omega
 have h1:∀ n ∈ (bif p then [begN] else [])++a.map oneB++(bif q then [finN] else []),n.size=1∧n.kind≠0∧n.kind≠4:=fun n hn=>by
  rcases List.mem_append.1 hn with hn | hn
  ·rcases List.mem_append.1 hn with hn | hn
   ·cases p
    ·cases hn
    ·rw [List.mem_singleton.1 hn];exact ⟨by rw [Node.size_eq];rfl,by decide,by decide⟩
   ·obtain ⟨c,_,rfl⟩:=List.mem_map.1 hn
    exact ⟨oneB_size c,by show (1:Int)≠0;decide,by show (1:Int)≠4;decide⟩
  ·cases q
   ·cases hn
   ·rw [List.mem_singleton.1 hn];exact ⟨by rw [Node.size_eq];rfl,by decide,by decide⟩
 have h2:((bif p then [begN] else [])++a.map oneB++(bif q then [finN] else [])).length≤14:=by
  cases p <;> cases q <;> simp <;> omega
 unfold ancN catF
 rw [flat_self fun n hn=>(h1 n hn).2.2,full_self fun n hn=>(h1 n hn).2.1]
 generalize (bif p then [begN] else [])++a.map oneB++(bif q then [finN] else [])=l at *
 match l with
 | []=>have:=empty_size;show Node.empty.size≤200;omega
 | [n]=>have:=(h1 n (by simp)).1;show n.size≤200;omega
 | x::y::l =>
  have:=key (x::y::l) (fun n hn=>(h1 n hn).1) h2
  show (Node.mk 4 W4.zero 0 0 (x::y::l)).size≤200
  rw [Node.size_eq]
  exact this
theorem anc_len {p q:Bool} {a:List UInt8}:(ancT p q a).length≤a.length + 2:=by unfold ancT;cases p <;> cases q <;> simp
theorem of_anc {m:Int} {hp:List Blk} {p q:Bool} {a:List UInt8} (ha:a.length≤12) (h:∀ c ∈ a,isLit c=true) (hc:cloH hp.length hp=true):Made m 0 hp (ancT p q a) (ancN p q a):=by
 have:=anc_len (p:=p) (q:=q) (a:=a)
 exact of_rd (anc_rd h) (anc_size ha) (by omega) hc (Nat.zero_le _)
theorem find_anc {s:List UInt8} {p q:Bool} {a:List UInt8}:(∃ i j,i≤s.length∧LN s (ancN p q a) i j)↔∃ i,At s a i∧i≤s.length∧(p=true→i=0)∧(q=true→i + a.length=s.length):=by
 rw [LN_anc]
 constructor
 ·rintro ⟨i,j,h0,h1,h2,rfl,h4⟩
  exact ⟨i,h2,h0,h1,h4⟩
 ·rintro ⟨i,h1,h2,h3,h4⟩
  exact ⟨i,_,h2,h3,h1,rfl,h4⟩
theorem At_take {s a:List UInt8}:At s a 0↔s.take a.length=a:=by unfold At;rw [List.drop_zero]
theorem At_drop {s a:List UInt8} (h:a.length≤s.length):At s a (s.length - a.length)↔s.drop (s.length - a.length)=a:=by
 unfold At
 rw [List.take_of_length_le (by simp;omega)]
theorem anchors_law {m:Int} {x y z:AV} {bx bY bz:List UInt8} (hx:IsSl 1 x (bsV bx)) (hy:IsSl 1 y (bsV bY)) (hz:IsSl 1 z (bsV bz)):evI (cfg m) 0 7 [x,y,z] []=some (.bool true,[]):=by
 have xa:=letters_ok (m:=m) (fl:=0) (hp:=[]) hx
 have xb:=letters_ok (m:=m) (fl:=0) (hp:=[]) hy
 have xc:=letters_ok (m:=m) (fl:=0) (hp:=[]) hz
 have la:=ltT_len bx
 have lb:=ltT_len bY
 have lc:=ltT_len bz
 have lit:=ltT_lit bx
 generalize ltT bx=a at *
 generalize ltT bY=b at *
 generalize ltT bz=c at *
 obtain ⟨g1,o1,p1,c1,a1,_⟩:=of_anc (m:=m) (hp:=[]) (p:=true) (q:=true) la lit rfl
 obtain ⟨g2,o2,p2,c2,a2,_⟩:=of_anc (m:=m) (hp:=g1) (p:=true) (q:=false) la lit c1
 obtain ⟨g3,o3,p3,c3,a3,_⟩:=of_anc (m:=m) (hp:=g2) (p:=false) (q:=true) la lit c2
 have e2:ancT true false a=[94]++a:=by simp [ancT]
 have e3:ancT false true a=a++[36]:=by simp [ancT]
 rw [e2] at o2
 rw [e3] at o3
 have q1:=p1.fr (a2.trans a3)
 have q2:=p2.fr a3
 obtain ⟨b1,w1,i1⟩:=find_prg (m:=m) (fl:=0) (s:=b++a++c) q1 (by simp;omega)
 obtain ⟨b2,w2,i2⟩:=find_prg (m:=m) (fl:=0) (s:=b++a++c) q2 (by simp;omega)
 obtain ⟨b3,w3,i3⟩:=find_prg (m:=m) (fl:=0) (s:=b++a++c) p3 (by simp;omega)
 obtain ⟨b4,w4,i4⟩:=whole_prg (m:=m) (fl:=0) (s:=a) q1 (by omega)
 obtain ⟨b5,w5,i5⟩:=find_prg (m:=m) (fl:=0) (s:=a++c) q2 (by simp;omega)
 obtain ⟨b6,w6,i6⟩:=find_prg (m:=m) (fl:=0) (s:=b++a) p3 (by simp;omega)
 rw [find_anc] at i1 i2 i3 i5 i6
 rw [LN_anc] at i4
 have f4:b4=true:=i4.2 ⟨fun _=>rfl,by simp [At],by simp,fun _=>rfl⟩
 have f5:b5=true:=i5.2 ⟨0,by simp [At],Nat.zero_le _,fun _=>rfl,fun h=>by simp at h⟩
 have f6:b6=true:=i6.2 ⟨b.length,by simp [At],by simp,fun h=>by simp at h,fun _=>by simp⟩
 have hl:a.length≤(b++a++c).length:=by simp;omega
 have ed:(((b++a++c).length:Int) - (a.length:Int)).toNat=(b++a++c).length - a.length:=by omega
 generalize ht:b++a++c=t at *
 have f1:b1=true↔t=a:=by
  rw [i1]
  constructor
  ·rintro ⟨i,g1,g2,g3,g4⟩
   obtain rfl:=g3 rfl
   have:=g4 rfl
   rw [At_take,List.take_of_length_le (by omega)] at g1
   exact g1
  ·rintro rfl
   exact ⟨0,by simp [At],Nat.zero_le _,fun _=>rfl,fun _=>by simp⟩
 have f2:b2=true↔t.take a.length=a:=by
  rw [i2,← At_take]
  constructor
  ·rintro ⟨i,g1,g2,g3,g4⟩
   obtain rfl:=g3 rfl
   exact g1
  ·intro h
   exact ⟨0,h,Nat.zero_le _,fun _=>rfl,fun h=>by simp at h⟩
 have f3:b3=true↔t.drop ((t.length:Int) - (a.length:Int)).toNat=a:=by
  rw [i3,ed,← At_drop hl]
  constructor
  ·rintro ⟨i,g1,g2,g3,g4⟩
   have:=g4 rfl
   rw [show t.length - a.length=i by omega];exact g1
  ·intro h
   exact ⟨_,h,by omega,fun h=>by simp at h,fun _=>by omega⟩
 subst f4 f5 f6
 subst ht
 have F:∀ {b:Bool} {P:Prop},(b=true↔P)→¬ P→b=false:=fun {b P} h hn=>by
  cases b
  ·rfl
  ·exact absurd (h.1 rfl) hn
 by_cases k2:(b++a++c).take a.length=a
 ·obtain rfl:b2=true:=f2.2 k2
  by_cases k3:(b++a++c).drop (((b++a++c).length:Int) - (a.length:Int)).toNat=a
  ·obtain rfl:b3=true:=f3.2 k3
   by_cases k1:b++a++c=a
   ·obtain rfl:b1=true:=f1.2 k1
    exact na_1 ex0 xa xb xc la lb lc k1 k2 k3 o1 o2 o3 w1 w2 w3 w4 w5 w6
   ·obtain rfl:b1=false:=F f1 k1
    exact na_2 ex0 xa xb xc la lb lc k1 k2 k3 o1 o2 o3 w1 w2 w3 w4 w5 w6
  ·obtain rfl:b3=false:=F f3 k3
   have k1:¬ b++a++c=a:=fun h=>k3 (by rw [h];simp)
   obtain rfl:b1=false:=F f1 k1
   exact na_3 ex0 xa xb xc la lb lc k1 k2 k3 o1 o2 o3 w1 w2 w3 w4 w5 w6
 ·obtain rfl:b2=false:=F f2 k2
  have k1:¬ b++a++c=a:=fun h=>k2 (by rw [h];simp)
  obtain rfl:b1=false:=F f1 k1
  by_cases k3:(b++a++c).drop (((b++a++c).length:Int) - (a.length:Int)).toNat=a
  ·obtain rfl:b3=true:=f3.2 k3
   exact na_4 ex0 xa xb xc la lb lc k1 k2 k3 o1 o2 o3 w1 w2 w3 w4 w5 w6
  ·obtain rfl:b3=false:=F f3 k3
   exact na_5 ex0 xa xb xc la lb lc k1 k2 k3 o1 o2 o3 w1 w2 w3 w4 w5 w6
theorem anchors_all (x y z:AV) (hx:Sh (cfg 0) 6 22 x) (hy:Sh (cfg 0) 6 22 y) (hz:Sh (cfg 0) 6 22 z):evI (cfg 0) 0 7 [x,y,z] []=some (.bool true,[]):=by
 obtain ⟨b1,h1⟩:=bytes_of hx
 obtain ⟨b2,h2⟩:=bytes_of hy
 obtain ⟨b3,h3⟩:=bytes_of hz
 exact anchors_law h1 h2 h3
end Go.Proofs.YtanopbolgfcojaaGreatDoor.E.SZ
