/- Steps of the seat's proofs: an evaluator of the program's code, its soundness, and what the functions come to. -/
import Derived.Test.YtanopbolgfcojaaGreatDoorEaj
set_option linter.unusedSimpArgs false
set_option linter.unusedVariables false
namespace Go.Proofs.YtanopbolgfcojaaGreatDoor.E.SZ
open Go Go.Proofs E E.R
abbrev nlSt (a b c:List UInt8) (f:Bool) (i:Nat):List TV:=List.replicate 7 J++[.v (.bool true), .v (.str a), .v (.str b), .v (.str c), .v (.ptr 0 0),J,J, .v (.bool f), .v (AI i)]++List.replicate 73 J
abbrev nlEnd (a b c:List UInt8) (f:Bool):List TV:=List.replicate 7 J++[.v (.bool true), .v (.str a), .v (.str b), .v (.str c), .v (.ptr 0 0),J,J, .v (.bool f)]++List.replicate 74 J
theorem nl_i1 {m:Int} {fl i:Nat} {hp:List Blk} {a b c:List UInt8} (hi:i + a.length≤c.length) (la:a.length≤12) (lc:c.length≤12):LoopS (cfg m) fl 5 (bodyAt (cfg m) 5 12) 12 ⟨nlSt a b c true i,hp⟩ ⟨nlSt a b c true (i + 1),hp⟩:=by
 exact loopStepS (St.mk ([J,J,J,J,J,J,J,TV.v (AV.bool true),TV.v (AV.str a),TV.v (AV.str b),TV.v (AV.str c),TV.v (AV.ptr 0 0),J,J,TV.v (AV.bool true),TV.v (AI ((↑i:Int) + 1))]++Jn 73) hp) [.w 12 3 IntKind.i64 ((↑i:Int) + (↑a.length:Int)) (wrap_i64' (by omega)), .b 12 6 (decide_eq_true ((show (↑i:Int) + (↑a.length:Int)≤(↑c.length:Int) from (by omega)))), .w 13 1 IntKind.i64 ((↑i:Int) + 1) (wrap_i64' (by omega))] (by kernel_rfl) rfl
theorem nl_i2 {m:Int} {fl i:Nat} {hp:List Blk} {a b c:List UInt8} (hi:i + a.length≤c.length) (la:a.length≤12) (lc:c.length≤12) (hq:List.take (((i:Int) + (a.length:Int)).toNat - i) (List.drop i c)=a):LoopS (cfg m) fl 5 (bodyAt (cfg m) 5 12) 12 ⟨nlSt a b c false i,hp⟩ ⟨nlSt a b c true (i + 1),hp⟩:=by
 exact loopStepS (St.mk [J,J,J,J,J,J,J,TV.v (AV.bool true),TV.v (AV.str a),TV.v (AV.str b),TV.v (AV.str c),TV.v (AV.ptr 0 0),J,J,TV.v (AV.bool true),TV.v (AI ((↑i:Int) + 1)),J,J,J,J,J,J,J,J,J,J,J,J,J,J,J,J,J,J,J,J,J,J,J,J,J,J,J,J,J,J,J,J,J,J,J,J,J,J,J,J,J,J,J,J,J,J,J,J,J,J,J,J,J,J,J,J,J,J,J,J,J,J,J,J,J,J,J,J,J,J,J,J,J] hp) [.w 12 3 IntKind.i64 ((↑i:Int) + (↑a.length:Int)) (wrap_i64' (by omega)), .b 12 6 (decide_eq_true ((show (↑i:Int) + (↑a.length:Int)≤(↑c.length:Int) from (by omega)))), .w 14 7 IntKind.i64 ((↑i:Int) + (↑a.length:Int)) (wrap_i64' (by omega)), .s 14 8 (hp) Fp.z (slice_strI (C:=cfg m) (t:=9) (s:=c) (k:=IntKind.i64) (k':=IntKind.i64) (n:=(↑i:Int)) (m:=(↑i:Int) + (↑a.length:Int)) (hp:=hp) (by kernel_rfl) (by omega) (by omega) (by omega)), .b 14 10 (beq_iff_eq.2 (hq)), .w 13 1 IntKind.i64 ((↑i:Int) + 1) (wrap_i64' (by omega))] (by kernel_rfl) rfl
theorem nl_i3 {m:Int} {fl i:Nat} {hp:List Blk} {a b c:List UInt8} (hi:i + a.length≤c.length) (la:a.length≤12) (lc:c.length≤12) (hq:¬ List.take (((i:Int) + (a.length:Int)).toNat - i) (List.drop i c)=a):LoopS (cfg m) fl 5 (bodyAt (cfg m) 5 12) 12 ⟨nlSt a b c false i,hp⟩ ⟨nlSt a b c false (i + 1),hp⟩:=by
 exact loopStepS (St.mk [J,J,J,J,J,J,J,TV.v (AV.bool true),TV.v (AV.str a),TV.v (AV.str b),TV.v (AV.str c),TV.v (AV.ptr 0 0),J,J,TV.v (AV.bool false),TV.v (AI ((↑i:Int) + 1)),J,J,J,J,J,J,J,J,J,J,J,J,J,J,J,J,J,J,J,J,J,J,J,J,J,J,J,J,J,J,J,J,J,J,J,J,J,J,J,J,J,J,J,J,J,J,J,J,J,J,J,J,J,J,J,J,J,J,J,J,J,J,J,J,J,J,J,J,J,J,J,J,J] hp) [.w 12 3 IntKind.i64 ((↑i:Int) + (↑a.length:Int)) (wrap_i64' (by omega)), .b 12 6 (decide_eq_true ((show (↑i:Int) + (↑a.length:Int)≤(↑c.length:Int) from (by omega)))), .w 14 7 IntKind.i64 ((↑i:Int) + (↑a.length:Int)) (wrap_i64' (by omega)), .s 14 8 (hp) Fp.z (slice_strI (C:=cfg m) (t:=9) (s:=c) (k:=IntKind.i64) (k':=IntKind.i64) (n:=(↑i:Int)) (m:=(↑i:Int) + (↑a.length:Int)) (hp:=hp) (by kernel_rfl) (by omega) (by omega) (by omega)), .b 14 10 (beq_false_of_ne (hq)), .w 13 1 IntKind.i64 ((↑i:Int) + 1) (wrap_i64' (by omega))] (by kernel_rfl) rfl
theorem nl_x {m:Int} {fl i:Nat} {hp:List Blk} {a b c:List UInt8} {f:Bool} (hi:c.length < i + a.length) (la:a.length≤12) (lc:c.length≤12) (hi2:i≤13):LoopI (cfg m) fl 5 (bodyAt (cfg m) 5 12) 12 ⟨nlSt a b c f i,hp⟩ (.exit 0) ⟨nlEnd a b c f,hp⟩:=by
 exact loopEndC (.exit 0) (St.mk ([J,J,J,J,J,J,J,TV.v (AV.bool true),TV.v (AV.str a),TV.v (AV.str b),TV.v (AV.str c),TV.v (AV.ptr 0 0),J,J,TV.v (AV.bool f)]++Jn 74) hp) [.w 12 3 IntKind.i64 ((↑i:Int) + (↑a.length:Int)) (wrap_i64' (by omega)), .b 12 6 (decide_eq_false ((show ¬(↑i:Int) + (↑a.length:Int)≤(↑c.length:Int) from (by omega))))] (by kernel_rfl) (fun h=>by cases h) rfl
theorem nl_0 {m:Int} {x y z:AV} {a b c:List UInt8} {g1:List Blk} {pl:Int} {f:Bool} (hex:evI (cfg m) 0 9 [] []=some (.bool true,[])) (hxa:evI (cfg m) 0 15 [x] []=some (.str a,[])) (hxb:evI (cfg m) 0 15 [y] []=some (.str b,[])) (hxc:evI (cfg m) 0 15 [z] []=some (.str c,[])) (la:a.length≤12) (lb:b.length≤12) (lc:c.length≤12) (hof:evI (cfg m) 0 12 [.str a] []=some (.tup [.ptr 0 0, .int .i64 pl, .int .i64 0],g1)) (hlp:LoopI (cfg m) 0 5 (bodyAt (cfg m) 5 12) 12 ⟨nlSt a b c false 0,g1⟩ (.exit 0) ⟨nlEnd a b c f,g1⟩) (w1:evI (cfg m) 0 13 [.ptr 0 0, .str b] g1=some (.bool (decide (a=b)),g1)) (w2:evI (cfg m) 0 13 [.ptr 0 0, .str a] g1=some (.bool true,g1)) (w3:evI (cfg m) 0 14 [.ptr 0 0, .str (b++a++c)] g1=some (.bool true,g1)) (w4:evI (cfg m) 0 14 [.ptr 0 0, .str c] g1=some (.bool f,g1)):evI (cfg m) 0 5 [x,y,z] []=some (.bool true,[]):=by
 by_cases h1:a=b
 ·rcases bcases (f) with h2 | h2
  ·exact evX (AV.bool true) (g1) [.c 1 0 hex, .c 4 1 hxa, .c 5 1 hxb, .c 6 1 hxc, .c 7 1 hof, .l 12 hlp, .cb 15 4 w1 (decide_eq_true h1), .b 15 7 (beq_iff_eq.2 (h1)), .c 15 13 w2, .v 15 19 (strOp_add (x:=b) (y:=a) (by omega)), .v 15 21 (strOp_add (x:=b++a) (y:=c) (by simp only [setAt_length,List.length_append,List.length_cons,List.length_nil,List.length_map] at *;omega)), .c 15 22 w3, .cb 15 27 w4 h2, .b 15 28 h2] (by kernel_rfl) (tlP (by kernel_rfl) rfl (shutT (v:=AV.bool true) (v':=AV.bool true) (by kernel_rfl))) rfl
  ·exact evX (AV.bool true) (g1) [.c 1 0 hex, .c 4 1 hxa, .c 5 1 hxb, .c 6 1 hxc, .c 7 1 hof, .l 12 hlp, .cb 15 4 w1 (decide_eq_true h1), .b 15 7 (beq_iff_eq.2 (h1)), .c 15 13 w2, .v 15 19 (strOp_add (x:=b) (y:=a) (by omega)), .v 15 21 (strOp_add (x:=b++a) (y:=c) (by simp only [setAt_length,List.length_append,List.length_cons,List.length_nil,List.length_map] at *;omega)), .c 15 22 w3, .cb 15 27 w4 h2, .b 15 28 h2] (by kernel_rfl) (tlP (by kernel_rfl) rfl (shutT (v:=AV.bool true) (v':=AV.bool true) (by kernel_rfl))) rfl
 ·rcases bcases (f) with h2 | h2
  ·exact evX (AV.bool true) (g1) [.c 1 0 hex, .c 4 1 hxa, .c 5 1 hxb, .c 6 1 hxc, .c 7 1 hof, .l 12 hlp, .cb 15 4 w1 (decide_eq_false h1), .b 15 7 (beq_false_of_ne (h1)), .c 15 13 w2, .v 15 19 (strOp_add (x:=b) (y:=a) (by omega)), .v 15 21 (strOp_add (x:=b++a) (y:=c) (by simp only [setAt_length,List.length_append,List.length_cons,List.length_nil,List.length_map] at *;omega)), .c 15 22 w3, .cb 15 27 w4 h2, .b 15 28 h2] (by kernel_rfl) (tlP (by kernel_rfl) rfl (shutT (v:=AV.bool true) (v':=AV.bool true) (by kernel_rfl))) rfl
  ·exact evX (AV.bool true) (g1) [.c 1 0 hex, .c 4 1 hxa, .c 5 1 hxb, .c 6 1 hxc, .c 7 1 hof, .l 12 hlp, .cb 15 4 w1 (decide_eq_false h1), .b 15 7 (beq_false_of_ne (h1)), .c 15 13 w2, .v 15 19 (strOp_add (x:=b) (y:=a) (by omega)), .v 15 21 (strOp_add (x:=b++a) (y:=c) (by simp only [setAt_length,List.length_append,List.length_cons,List.length_nil,List.length_map] at *;omega)), .c 15 22 w3, .cb 15 27 w4 h2, .b 15 28 h2] (by kernel_rfl) (tlP (by kernel_rfl) rfl (shutT (v:=AV.bool true) (v':=AV.bool true) (by kernel_rfl))) rfl
end Go.Proofs.YtanopbolgfcojaaGreatDoor.E.SZ
namespace Go.Proofs.YtanopbolgfcojaaGreatDoor.E.SZ
open Go Go.Proofs E E.R E.SZ.N
def ltC (c:UInt8):UInt8:=if c.toNat % 2=0 then 97 else 98
def ltT (bs:List UInt8):List UInt8:=(bs.take 12).map ltC
theorem ltT_len (bs:List UInt8):(ltT bs).length≤12:=by unfold ltT;rw [List.length_map,List.length_take];omega
theorem ltC_lit (c:UInt8):isLit (ltC c)=true:=by unfold ltC;split <;> decide
theorem ltT_lit (bs:List UInt8):∀ c ∈ ltT bs,isLit c=true:=fun c hc=>by
 unfold ltT at hc
 obtain ⟨d,_,rfl⟩:=List.mem_map.1 hc
 exact ltC_lit d
theorem lt_loop {m:Int} {fl:Nat} {l:AV} {bs:List UInt8} (hl:IsSl 1 l (bsV bs)):∀ (r:List UInt8) (i:Nat) (s:List UInt8) (o:AV) (hp:List Blk),(bs.take 12).drop i=r→i≤12→s.length + r.length≤12→fl≤hp.length→Gr fl 1 hp o (bsV s)→∃ hp' o',LoopI (cfg m) fl 15 (bodyAt (cfg m) 15 3) 3 ⟨leSt l o i,hp⟩ (.exit 0) ⟨leEnd o',hp'⟩∧Gr fl 1 hp' o' (bsV (s++r.map ltC))
 | [],i,s,o,hp,hd,hi,hs,hf,ho=>by
  have h1:(bs.take 12).length≤i:=by simpa using hd
  rw [List.length_take] at h1
  rw [List.map_nil,List.append_nil]
  exact ⟨hp,o,le_x hl (by omega) hi,ho⟩
 | c::r,i,s,o,hp,hd,hi,hs,hf,ho=>by
  have hq:(bs.take 12)[i]?=some c:=by have:=congrArg (·[0]?) hd;simpa using this
  have hlt:=(List.getElem?_eq_some_iff.1 hq).1
  rw [List.length_take] at hlt
  have hq2:bs[i]?=some c:=by rw [List.getElem?_take_of_lt (by omega)] at hq;exact hq
  have hd':(bs.take 12).drop (i + 1)=r:=by rw [← List.drop_drop,hd];rfl
  have hc:(bsV bs)[i]?=some (.int .u8 (c.toNat:Int)):=by rw [List.getElem?_map,hq2];rfl
  simp only [List.length_cons] at hs
  have e:∀ d,bsV s++[AV.int .u8 ((d:UInt8).toNat:Int)]=bsV (s++[d]):=fun d=>by simp [bsV]
  have key:∃ hp1 o1,LoopS (cfg m) fl 15 (bodyAt (cfg m) 15 3) 3 ⟨leSt l o i,hp⟩ ⟨leSt l o1 (i + 1),hp1⟩∧Gr fl 1 hp1 o1 (bsV (s++[ltC c]))∧FrC [] hp hp1:=by
   unfold ltC
   by_cases h2:c.toNat % 2=0
   ·rw [if_pos h2,← e]
    exact le_i0 hl hc (by omega) (by omega) ho (by simp [bsV];omega) hf (by show ((c.toNat % 2:Nat):Int)=0;omega)
   ·rw [if_neg h2,← e]
    exact le_i1 hl hc (by omega) (by omega) ho (by simp [bsV];omega) hf (by show ((c.toNat % 2:Nat):Int)=1;omega)
  obtain ⟨hp1,o1,k1,k2,k3⟩:=key
  obtain ⟨hp',o',g1,g2⟩:=lt_loop (m:=m) hl r (i + 1) (s++[ltC c]) o1 hp1 hd' (by omega) (by simp;omega) (Nat.le_trans hf k3.1) k2
  exact ⟨hp',o',k1 _ _ g1,by rw [List.map_cons,show s++ltC c::r.map ltC=s++[ltC c]++r.map ltC by simp];exact g2⟩
theorem letters_ok {m:Int} {fl:Nat} {hp:List Blk} {l:AV} {bs:List UInt8} (hl:IsSl 1 l (bsV bs)):evI (cfg m) fl 15 [l] hp=some (.str (ltT bs),hp):=by
 obtain ⟨hp',o',g1,g2⟩:=lt_loop (m:=m) (fl:=hp.length) hl (bs.take 12) 0 [] .nilS hp rfl (by omega) (by rw [List.length_take];simp;omega) (Nat.le_refl _) (Gr.nil _ _ _)
 exact le_ok g1 g2
def fndF (a c:List UInt8):Nat→Nat→Bool→Bool
 | 0,_,f=>f
 | k + 1,i,f=>if i + a.length≤c.length then fndF a c k (i + 1) (f||decide (At c a i)) else f
theorem fndF_iff {a c:List UInt8}:∀ (k i:Nat) (f:Bool),c.length < i + k→(fndF a c k i f=true↔f=true∨∃ j,i≤j∧j + a.length≤c.length∧At c a j)
 | 0,i,f,h=>by
  unfold fndF
  constructor
  ·exact .inl
  ·rintro (h1 | ⟨j,h1,h2,_⟩)
   ·exact h1
   ·omega
 | k + 1,i,f,h=>by
  unfold fndF
  split
  ·rename_i hi
   rw [fndF_iff k (i + 1) _ (by omega),Bool.or_eq_true,decide_eq_true_eq,or_assoc]
   constructor
   ·rintro (h1 | h1 | ⟨j,h1,h2⟩)
    ·exact .inl h1
    ·exact .inr ⟨i,Nat.le_refl _,hi,h1⟩
    ·exact .inr ⟨j,by omega,h2⟩
   ·rintro (h1 | ⟨j,h1,h2,h3⟩)
    ·exact .inl h1
    ·by_cases e:j=i
     ·subst e;exact .inr (.inl h3)
     ·exact .inr (.inr ⟨j,by omega,h2,h3⟩)
  ·rename_i hi
   constructor
   ·exact .inl
   ·rintro (h1 | ⟨j,h1,h2,_⟩)
    ·exact h1
    ·omega
theorem fnd_loop {m:Int} {fl:Nat} {hp:List Blk} {a b c:List UInt8} (la:a.length≤12) (lc:c.length≤12):∀ (k i:Nat) (f:Bool),c.length < i + k→i≤13→LoopI (cfg m) fl 5 (bodyAt (cfg m) 5 12) 12 ⟨nlSt a b c f i,hp⟩ (.exit 0) ⟨nlEnd a b c (fndF a c k i f),hp⟩
 | 0,i,f,h,h2=>nl_x (by omega) la lc h2
 | k + 1,i,f,h,h2=>by
  unfold fndF
  split
  ·rename_i hi
   have ih:=fnd_loop (m:=m) (fl:=fl) (hp:=hp) (b:=b) la lc k (i + 1) (f||decide (At c a i)) (by omega) (by omega)
   cases f with
   | true=>exact nl_i1 hi la lc _ _ (by simpa using ih)
   | false =>
    have e:((i:Int) + (a.length:Int)).toNat - i=a.length:=by omega
    by_cases hq:At c a i
    ·rw [decide_eq_true hq] at ih ⊢
     exact nl_i2 hi la lc (by rw [e];exact hq) _ _ ih
    ·rw [decide_eq_false hq] at ih ⊢
     exact nl_i3 hi la lc (by rw [e];exact hq) _ _ ih
  ·rename_i hi
   exact nl_x (by omega) la lc h2
theorem letters_law {m:Int} {x y z:AV} {bx bY bz:List UInt8} (hx:IsSl 1 x (bsV bx)) (hy:IsSl 1 y (bsV bY)) (hz:IsSl 1 z (bsV bz)):evI (cfg m) 0 5 [x,y,z] []=some (.bool true,[]):=by
 have xa:=letters_ok (m:=m) (fl:=0) (hp:=[]) hx
 have xb:=letters_ok (m:=m) (fl:=0) (hp:=[]) hy
 have xc:=letters_ok (m:=m) (fl:=0) (hp:=[]) hz
 have la:=ltT_len bx
 have lb:=ltT_len bY
 have lc:=ltT_len bz
 have lit:=ltT_lit bx
 generalize ltT bx=a at *
 generalize ltT bY=b at *
 generalize ltT bz=c at *
 have hp:=plain_parse (l:=a) (by omega)
 rw [plain_lits _ lit] at hp
 obtain ⟨g1,of1,p,c1,_⟩:=of_M (m:=m) (fl:=0) (hp:=[]) hp rfl (Nat.zero_le _)
 obtain ⟨b1,w1,i1⟩:=whole_prg (m:=m) (fl:=0) (s:=b) p (by omega)
 obtain ⟨b2,w2,i2⟩:=whole_prg (m:=m) (fl:=0) (s:=a) p (by omega)
 obtain ⟨b3,w3,i3⟩:=find_prg (m:=m) (fl:=0) (s:=b++a++c) p (by simp;omega)
 obtain ⟨b4,w4,i4⟩:=find_prg (m:=m) (fl:=0) (s:=c) p (by omega)
 rw [LN_plain] at i1 i2
 rw [find_plain] at i3 i4
 have e1:b1=decide (a=b):=by
  rw [Bool.eq_iff_iff,i1,decide_eq_true_eq];exact At_zero
 have e2:b2=true:=i2.2 (At_zero.2 rfl)
 have e3:b3=true:=i3.2 ⟨b.length,by simp,At_mid b a c⟩
 have e4:b4=fndF a c (c.length + 1) 0 false:=by
  rw [Bool.eq_iff_iff,i4,fndF_iff _ _ _ (by omega)]
  constructor
  ·rintro ⟨i,h⟩;exact .inr ⟨i,Nat.zero_le _,h⟩
  ·rintro (h | ⟨i,_,h⟩)
   ·cases h
   ·exact ⟨i,h⟩
 subst e1 e2 e3 e4
 exact nl_0 ex0 xa xb xc la lb lc of1 (fnd_loop la lc _ _ _ (by omega) (by omega)) w1 w2 w3 w4
theorem letters_all (x y z:AV) (hx:Sh (cfg 0) 6 22 x) (hy:Sh (cfg 0) 6 22 y) (hz:Sh (cfg 0) 6 22 z):evI (cfg 0) 0 5 [x,y,z] []=some (.bool true,[]):=by
 obtain ⟨b1,h1⟩:=bytes_of hx
 obtain ⟨b2,h2⟩:=bytes_of hy
 obtain ⟨b3,h3⟩:=bytes_of hz
 exact letters_law h1 h2 h3
end Go.Proofs.YtanopbolgfcojaaGreatDoor.E.SZ
