/- Steps of the seat's proofs: an evaluator of the program's code, its soundness, and what the functions come to. -/
import Derived.Test.YtanopbolgfcojaaGreatDoorEag
set_option linter.unusedSimpArgs false
set_option linter.unusedVariables false
namespace Go.Proofs.YtanopbolgfcojaaGreatDoor.E.SZ
open Go Go.Proofs E E.R
def pieces (n:Node):List Node:=if n.kind=0 then [] else if n.kind=4 then n.kids else [n]
theorem flat_self {kd:Int}:∀ {l:List Node},(∀ n ∈ l,n.kind≠kd)→flatF kd l=l
 | [],_=>rfl
 | n::l,h=>by
  unfold flatF
  rw [if_neg (h n (by simp)),flat_self fun q hq=>h q (by simp [hq])]
  rfl
theorem full_self {l:List Node} (h:∀ n ∈ l,n.kind≠0):full l=l:=by
 unfold full
 rw [List.filter_eq_self]
 intro n hn
 simp [h n hn]
theorem cat_pieces {n:Node} (h:Shape n) (h5:n.kind≠5):catF (pieces n)=n:=by
 have one:∀ k:Node,k.kind≠0→k.kind≠4→catF [k]=k:=fun k h0 h4=>by
  unfold catF
  rw [flat_self (by simpa using h4),full_self (by simpa using h0)]
 cases h with
 | empty=>rfl
 | one s h=>exact one _ (by simp [Node.kind]) (by simp [Node.kind])
 | beg=>rfl
 | fin=>rfl
 | cat l hl hk =>
  show catF l=_
  unfold catF
  rw [flat_self fun n hn=>(hk n hn).2,full_self fun n hn=>(hk n hn).1]
  match l,hl with
  | a::b::l,_=>rfl
 | alt=>exact absurd rfl h5
 | rep a b q=>exact one _ (by simp [Node.kind]) (by simp [Node.kind])
def Ends (t:List UInt8):Prop:=t=[]∨t.headD 0=41
theorem rdO_end {A O:List Node} {t:List UInt8} (h:Ends t):rdO A O t=some (A,O,t):=by
 rw [rdO_eq,if_pos (show t=[]∨t.headD 0=41 from h)]
theorem rdO_bar {A O:List Node} {t:List UInt8}:rdO A O (124::t)=rdO (A++[catF O]) [] t:=by
 rw [rdO_eq,if_neg (by rintro (h | h);cases h;exact absurd h (show (124:UInt8)≠41 by decide)),if_pos (show (124::t).headD 0=124 from rfl)]
 rfl
theorem times_no {n:Node} {t:List UInt8} (h:quant (t.headD 0)=false):timesL n t=some (n,t):=by
 simp only [quant,Bool.or_eq_false_iff,beq_eq_false_iff_ne] at h
 obtain ⟨h1,h2,h3,h4⟩:=h
 unfold timesL
 rw [if_neg h1,if_neg h2,if_neg h3,if_neg h4]
theorem brk_hd (p t:List UInt8):brk p++t≠[]∧(brk p++t).headD 0≠41∧(brk p++t).headD 0≠124∧quant ((brk p++t).headD 0)=false :=
 ⟨by simp [brk],show (40:UInt8)≠41 by decide,show (40:UInt8)≠124 by decide,show quant 40=false by decide⟩
abbrev xsSt (l P:AV) (s:List UInt8) (i:Nat):List TV:=[.v l,J,J, .v P, .v (.str s), .v (AI i)]++List.replicate 28 J
abbrev xsEnd (s:List UInt8):List TV:=[J,J,J,J, .v (.str s)]++List.replicate 29 J
theorem xcat {s t:List UInt8} (hs:s.length < 1000) (ht:t.length < 100):s.length + t.length≤9223372036854775807:=by omega
theorem re_a {m:Int} {fl i j:Nat} {hp:List Blk} {l P:AV} {bs s t:List UInt8} {vs:List AV} {c:UInt8} (hl:IsSl 1 l (bsV bs)) (hP:IsSl 1 P vs) (hc:(bsV bs)[i]?=some (.int .u8 (c.toNat:Int))) (hi:i < bs.length) (hi2:i < 16) (hs:s.length < 1000) (ht:t.length < 100) (hk:(c.toNat:Int) < 200) (hj:Int.tmod (Int.tmod (c.toNat:Int) 22) 32=(j:Int)) (hj2:j < 32) (hv:vs[j]?=some (.str t)):LoopS (cfg m) fl 10 (bodyAt (cfg m) 10 4) 4 ⟨xsSt l P s i,hp⟩ ⟨xsSt l P (s++t) (i + 1),hp⟩:=by
 exact loopStepS (St.mk [TV.v l,J,J,TV.v P,TV.v (AV.str (s++t)),TV.v (AI ((↑i:Int) + 1)),J,J,J,J,J,J,J,J,J,J,J,J,J,J,J,J,J,J,J,J,J,J,J,J,J,J,J,J] hp) [.m 4 2 (len_sl (C:=cfg m) (t:=22) (ts':=[]) (fl:=fl) (ar:=false) (hp:=hp) hl (by kernel_rfl)), .b 4 3 (decide_eq_true ((show (↑i:Int) < (↑(bsV bs).length:Int) from (by have:=UInt8.toNat_lt (c);simp only [setAt_length,List.length_append,List.length_cons,List.length_nil,List.length_map] at *;omega)))), .b 4 6 (decide_eq_true ((show (↑i:Int) < 16 from (by omega)))), .a 6 2 (indexAddr_sl (C:=cfg m) (t:=22) (n:=(↑i:Int)) hl (by kernel_rfl) (by omega) hc), .b 7 1 (decide_eq_true (hk)), .w 9 3 IntKind.u8 ((↑j:Int)) hj, .a 9 4 (indexAddr_sl (C:=cfg m) (t:=45) (n:=(↑j:Int)) hP (by kernel_rfl) (by omega) hv), .v 9 6 (strOp_add (x:=s) (y:=t) (xcat hs ht)), .w 5 1 IntKind.i64 ((↑i:Int) + 1) (wrap_i64' (by omega))] (by kernel_rfl) rfl
theorem re_b {m:Int} {fl i j:Nat} {hp:List Blk} {l P:AV} {bs s t:List UInt8} {vs:List AV} {c:UInt8} (hl:IsSl 1 l (bsV bs)) (hP:IsSl 1 P vs) (hc:(bsV bs)[i]?=some (.int .u8 (c.toNat:Int))) (hi:i < bs.length) (hi2:i < 16) (hs:s.length < 1000) (ht:t.length < 100) (hk:¬ (c.toNat:Int) < 200) (hj:Int.tmod (c.toNat:Int) 32=(j:Int)) (hj2:j < 32) (hv:vs[j]?=some (.str t)):LoopS (cfg m) fl 10 (bodyAt (cfg m) 10 4) 4 ⟨xsSt l P s i,hp⟩ ⟨xsSt l P (s++t) (i + 1),hp⟩:=by
 exact loopStepS (St.mk [TV.v l,J,J,TV.v P,TV.v (AV.str (s++t)),TV.v (AI ((↑i:Int) + 1)),J,J,J,J,J,J,J,J,J,J,J,J,J,J,J,J,J,J,J,J,J,J,J,J,J,J,J,J] hp) [.m 4 2 (len_sl (C:=cfg m) (t:=22) (ts':=[]) (fl:=fl) (ar:=false) (hp:=hp) hl (by kernel_rfl)), .b 4 3 (decide_eq_true ((show (↑i:Int) < (↑(bsV bs).length:Int) from (by have:=UInt8.toNat_lt (c);simp only [setAt_length,List.length_append,List.length_cons,List.length_nil,List.length_map] at *;omega)))), .b 4 6 (decide_eq_true ((show (↑i:Int) < 16 from (by omega)))), .a 6 2 (indexAddr_sl (C:=cfg m) (t:=22) (n:=(↑i:Int)) hl (by kernel_rfl) (by omega) hc), .b 7 1 (decide_eq_false (hk)), .w 9 3 IntKind.u8 ((↑j:Int)) hj, .a 9 4 (indexAddr_sl (C:=cfg m) (t:=45) (n:=(↑j:Int)) hP (by kernel_rfl) (by omega) hv), .v 9 6 (strOp_add (x:=s) (y:=t) (xcat hs ht)), .w 5 1 IntKind.i64 ((↑i:Int) + 1) (wrap_i64' (by omega))] (by kernel_rfl) rfl
theorem re_x {m:Int} {fl i:Nat} {hp:List Blk} {l P:AV} {bs s:List UInt8} (hl:IsSl 1 l (bsV bs)) (hi:bs.length≤i∨16≤i) (hi2:i≤16):LoopI (cfg m) fl 10 (bodyAt (cfg m) 10 4) 4 ⟨xsSt l P s i,hp⟩ (.exit 0) ⟨xsEnd s,hp⟩:=by
 by_cases h1:(↑i:Int) < (↑(bsV bs).length:Int)
 ·exact loopEndC (.exit 0) (St.mk ([J,J,J,J,TV.v (AV.str s)]++Jn 29) hp) [.m 4 2 (len_sl (C:=cfg m) (t:=22) (ts':=[]) (fl:=fl) (ar:=false) (hp:=hp) hl (by kernel_rfl)), .b 4 3 (decide_eq_true h1), .b 4 6 (decide_eq_false ((show ¬(↑i:Int) < 16 from (by simp only [setAt_length,List.length_append,List.length_cons,List.length_nil,List.length_map] at *;omega))))] (by kernel_rfl) (fun h=>by cases h) rfl
 ·exact loopEndC (.exit 0) (St.mk ([J,J,J,J,TV.v (AV.str s)]++Jn 29) hp) [.m 4 2 (len_sl (C:=cfg m) (t:=22) (ts':=[]) (fl:=fl) (ar:=false) (hp:=hp) hl (by kernel_rfl)), .b 4 3 (decide_eq_false h1)] (by kernel_rfl) (fun h=>by cases h) rfl
abbrev partsL:List (List UInt8):=[[97],[98],[99],[46],[124],[42],[43],[63],[40],[41],[123,50,125],[123,49,44,51,125],[123,50,44,125],[94],[36],[91,97,45,99,93],[91,94,97,93],[92,100],[92,119],[92,46],[97,98],[40,97,124,98,41],[91],[93],[123],[92],[45],[97,42],[40,97,98,41,43],[91,92,93,45,93],[123,51,44,50,125],[123,50,49,125]]
theorem re_ok {m:Int} {fl:Nat} {hp:List Blk} {l:AV} {s:List UInt8} (hlp:LoopI (cfg m) hp.length 10 (bodyAt (cfg m) 10 4) 4 ⟨xsSt l (.lit 1 .exact (stV partsL)) [] 0,hp⟩ (.exit 0) ⟨xsEnd s,hp⟩):evI (cfg m) fl 10 [l] hp=some (.str s,hp):=by
 exact evX (AV.str s) (hp) [.l 4 hlp] (by kernel_rfl) (tlP (by kernel_rfl) rfl (shutT (v:=AV.str s) (v':=AV.str s) (by kernel_rfl))) rfl
def partIx (c:UInt8):Nat:=if c.toNat < 200 then c.toNat % 22 % 32 else c.toNat % 32
def partOf (c:UInt8):List UInt8:=partsL.getD (partIx c) []
def rexesF (bs:List UInt8):List UInt8:=((bs.take 16).map partOf).flatten
theorem partIx_lt (c:UInt8):partIx c < 32:=by unfold partIx;split <;> omega
theorem parts_get (j:Nat) (h:j < 32):(stV partsL)[j]?=some (.str (partsL.getD j [])):=by
 have hl:partsL.length=32:=rfl
 rw [List.getElem?_map,List.getD_eq_getElem?_getD,List.getElem?_eq_getElem (by omega)]
 rfl
theorem parts_len:∀ j,j < 32→(partsL.getD j []).length < 6:=by decide
theorem partOf_len (c:UInt8):(partOf c).length < 6:=parts_len _ (partIx_lt c)
theorem flat_len6:∀ (l:List UInt8),((l.map partOf).flatten).length≤5 * l.length
 | []=>by simp
 | c::l=>by
  have h1:=flat_len6 l
  have h2:=partOf_len c
  simp only [List.map_cons,List.flatten_cons,List.length_append,List.length_cons]
  omega
theorem rexes_len (bs:List UInt8):(rexesF bs).length≤80:=by
 have h:=flat_len6 (bs.take 16)
 have h2:(bs.take 16).length≤16:=by rw [List.length_take];omega
 unfold rexesF
 omega
theorem xs_loop {m:Int} {fl:Nat} {hp:List Blk} {l:AV} {bs:List UInt8} (hl:IsSl 1 l (bsV bs)):∀ (r:List UInt8) (i:Nat) (s:List UInt8),(bs.take 16).drop i=r→i≤16→s.length + 5 * r.length≤80→LoopI (cfg m) fl 10 (bodyAt (cfg m) 10 4) 4 ⟨xsSt l (.lit 1 .exact (stV partsL)) s i,hp⟩ (.exit 0) ⟨xsEnd (s++(r.map partOf).flatten),hp⟩
 | [],i,s,hd,hi,hs=>by
  have h1:(bs.take 16).length≤i:=by simpa using hd
  rw [List.length_take] at h1
  rw [List.map_nil,List.flatten_nil,List.append_nil]
  exact re_x hl (by omega) hi
 | c::r,i,s,hd,hi,hs=>by
  have hq:(bs.take 16)[i]?=some c:=by have:=congrArg (·[0]?) hd;simpa using this
  have hlt:=(List.getElem?_eq_some_iff.1 hq).1
  rw [List.length_take] at hlt
  have hq2:bs[i]?=some c:=by rw [List.getElem?_take_of_lt (by omega)] at hq;exact hq
  have hd':(bs.take 16).drop (i + 1)=r:=by rw [← List.drop_drop,hd];rfl
  have hc:(bsV bs)[i]?=some (.int .u8 (c.toNat:Int)):=by rw [List.getElem?_map,hq2];rfl
  have hlen:=partOf_len c
  have hv:=parts_get (partIx c) (partIx_lt c)
  simp only [List.length_cons] at hs
  have ih:=xs_loop (m:=m) (fl:=fl) (hp:=hp) hl r (i + 1) (s++partOf c) hd' (by omega) (by rw [List.length_append];omega)
  rw [List.map_cons,List.flatten_cons,← List.append_assoc]
  by_cases hk:c.toNat < 200
  ·refine re_a (j:=partIx c) (t:=partOf c) hl (.lit _ _ _) hc (by omega) (by omega) (by omega) (by omega) (by omega) ?_ (partIx_lt c) hv _ _ ih
   unfold partIx
   rw [if_pos hk]
   rfl
  ·refine re_b (j:=partIx c) (t:=partOf c) hl (.lit _ _ _) hc (by omega) (by omega) (by omega) (by omega) (by omega) ?_ (partIx_lt c) hv _ _ ih
   unfold partIx
   rw [if_neg hk]
   rfl
theorem rexes_ok {m:Int} {fl:Nat} {hp:List Blk} {l:AV} {bs:List UInt8} (hl:IsSl 1 l (bsV bs)):evI (cfg m) fl 10 [l] hp=some (.str (rexesF bs),hp):=by
 have h16:(bs.take 16).length≤16:=by rw [List.length_take];omega
 exact re_ok (xs_loop (m:=m) (fl:=hp.length) (hp:=hp) hl (bs.take 16) 0 [] rfl (by omega) (by simp only [List.length_nil];omega))
section
variable {s:List UInt8}
theorem atom_le {rec:Nat→Int→Rd} {p:Nat} {bad:Int} (hp:p < s.length) (hb:bad≤s.length) (hr:∀ b:Int,b≤s.length→(rec (p + 1) b).2.2≤s.length):(atomF rec s p bad).2.2≤s.length:=by
 have h1:=hr bad hb
 unfold atomF
 dsimp only
 repeat' split
 all_goals dsimp only
 all_goals first | omega | (split <;> omega)
theorem times_le {n:Node} {q:Nat} {b:Int} (hq:q≤s.length) (hb:b≤s.length):(pieceG s n q b).2.2≤s.length:=by
 unfold pieceG
 dsimp only
 repeat' split
 all_goals dsimp only
 all_goals first | omega | (split <;> omega)
theorem piece_le {rec:Nat→Int→Rd} {p:Nat} {bad:Int} (hp:p < s.length) (hb:bad≤s.length) (hr:∀ b:Int,b≤s.length→(rec (p + 1) b).2.2≤s.length) (hr1:∀ b,Btw s (p + 1) (rec (p + 1) b).2.1):(pieceF rec s p bad).2.2≤s.length :=
 times_le (atomF_b (bad:=bad) hp hr1).2 (atom_le hp hb hr)
theorem loop_le {rec:Nat→Int→Rd}:∀ (f p:Nat) (bad:Int) (A O:List Node),bad≤s.length→p≤s.length→(∀ (q:Nat) (b:Int),p < q→q≤s.length→b≤s.length→(rec q b).2.2≤s.length)→(∀ q b,p < q→q≤s.length→Btw s q (rec q b).2.1)→(loopF rec s f p bad A O).2.2.2≤s.length
 | 0,p,bad,A,O,h,_,_,_=>h
 | f + 1,p,bad,A,O,h,hp,hr,hr1=>by
  unfold loopF
  split
  ·exact h
  ·rename_i h1
   have h1':bad < 0∧p < s.length:=Decidable.byContradiction fun g=>h1 g
   split
   ·exact h
   ·split
    ·rename_i h3
     have e:eatP s p bad 124=p + 1:=eatP_t h3
     rw [e]
     exact loop_le f _ _ _ _ h h1'.2 (fun q b h4=>hr q b (by omega)) (fun q b h4=>hr1 q b (by omega))
    ·rename_i h3
     have e:eatP s p bad 124=p:=eatP_f h3
     dsimp only
     rw [e]
     have hb:=pieceF_b (bad:=bad) (rec:=rec) h1'.2 (fun b=>hr1 (p + 1) b (by omega) h1'.2)
     exact loop_le f _ _ _ _ (piece_le h1'.2 h (fun b=>hr (p + 1) b (by omega) h1'.2) (fun b=>hr1 (p + 1) b (by omega) h1'.2)) hb.2 (fun q b h4=>hr q b (by have:=hb.1;omega)) (fun q b h4=>hr1 q b (by have:=hb.1;omega))
theorem alt_le:∀ (f p:Nat) (bad:Int),bad≤s.length→p≤s.length→(altF s f p bad).2.2≤s.length
 | 0,p,bad,h,_=>h
 | f + 1,p,bad,h,hp=>by
  unfold altF
  exact loop_le _ _ _ _ _ h hp (fun q b _ h2 h3=>alt_le f q b h3 h2) (fun q b _ h2=>(altF_all f q b h2).1)
theorem parse_tells (t:List UInt8):((∃ n,parseM t=(n,t.length,0)∧t.length≤256∧Norm 772 n∧n.lw≤257∧n.size≤200∧rdA t=some (n,[])))∨(∃ q e,parseM t=(.empty,q,e)∧e≠0∧q≤t.length):=by
 by_cases hl:256 < t.length
 ·exact .inr ⟨256,4,by unfold parseM;rw [if_pos hl],by decide,by omega⟩
 ·obtain ⟨h1,h2,h3⟩:=parse_L (t:=t) (by omega)
  by_cases hn:∃ n,rdA t=some (n,[])
  ·obtain ⟨n,hn⟩:=hn
   by_cases hz:n.size≤200
   ·refine .inl ⟨n,h1 n hn hz,by omega, ?_, ?_,hz,hn⟩
    ·obtain ⟨d,hd⟩:=rdA_norm _ _ _ hn
     have ha:=altF_all (s:=t) 257 0 (-1) (by omega)
     have hL:=alt_L (s:=t) 257 0 (-1) (by omega) (by omega) (by omega)
     rw [List.drop_zero,alt_fuel 257 (t.length + 1) t (by omega) (by omega)] at hL
     rw [show altL (t.length + 1) t=some (n,[]) from hn] at hL
     rw [hL.1] at ha
     exact hd.of_dep ha.2.2
    ·have ha:=altF_all (s:=t) 257 0 (-1) (by omega)
     have hL:=alt_L (s:=t) 257 0 (-1) (by omega) (by omega) (by omega)
     rw [List.drop_zero,alt_fuel 257 (t.length + 1) t (by omega) (by omega)] at hL
     rw [show altL (t.length + 1) t=some (n,[]) from hn] at hL
     rw [hL.1] at ha
     have:=ha.1.2
     have:=ha.2.1
     omega
   ·exact .inr ⟨t.length,4,h2 n hn (by omega),by decide,by omega⟩
  ·obtain ⟨g1,g2⟩:=h3 fun n h=>hn ⟨n,h⟩
   refine .inr ⟨(parseM t).2.1,2,by rw [← g1,← g2],by decide, ?_⟩
   have hb:=alt_le (s:=t) 257 0 (-1) (by omega) (by omega)
   have ha:=(altF_all (s:=t) 257 0 (-1) (by omega)).1.2
   unfold parseM
   rw [if_neg hl]
   split
   ·dsimp only;omega
   split
   ·dsimp only;exact ha
   split
   ·exact Nat.le_refl _
   ·exact Nat.le_refl _
end
end Go.Proofs.YtanopbolgfcojaaGreatDoor.E.SZ
namespace Go.Proofs.YtanopbolgfcojaaGreatDoor.E.SZ
section
open Go Go.Proofs E E.R
end
end Go.Proofs.YtanopbolgfcojaaGreatDoor.E.SZ
namespace Go.Proofs.YtanopbolgfcojaaGreatDoor.E.SZ
open Go Go.Proofs E E.R
def Fits (r u:List UInt8):Prop:=r≠[]∨u.headD 0=41
theorem hd_app {r u:List UInt8} (h:r≠[]):(r++u).headD 0=r.headD 0:=by
 cases r with
 | nil=>exact absurd rfl h
 | cons c r=>rfl
theorem tail_app {r u:List UInt8} (h:r≠[]):(r++u).tail=r.tail++u:=by
 cases r with
 | nil=>exact absurd rfl h
 | cons c r=>rfl
theorem ne_of_hd {r:List UInt8} {c:UInt8} (hc:c≠0) (h:r.headD 0=c):r≠[]:=fun e=>by
 rw [e] at h;exact hc h.symm
theorem esc_ext {t:List UInt8} {x:W4} {r:List UInt8} (h:escL t=some (x,r)) (u:List UInt8):escL (t++u)=some (x,r++u):=by
 cases t with
 | nil=>cases h
 | cons b t =>
  unfold escL at h
  dsimp only at h
  show (if escS b=W4.zero then none else some (escS b,t++u))=_
  split at h
  ·cases h
  ·rename_i hz;cases h;rw [if_neg hz]
theorem mem_ext {t:List UInt8} {x:W4} {r:List UInt8} (h:memL t=some (x,r)) (u:List UInt8):memL (t++u)=some (x,r++u):=by
 cases t with
 | nil=>cases h
 | cons b t =>
  unfold memL at h
  dsimp only at h
  show (if b=92 then escL (t++u) else if oneOf inClass b=true then none else some (W4.zero.with b b,t++u))=_
  split at h
  ·rename_i hb;rw [if_pos hb];exact esc_ext h u
  ·rename_i hb
   rw [if_neg hb]
   split at h
   ·cases h
   ·rename_i hc;cases h;rw [if_neg hc]
theorem item_ext {t:List UInt8} {x:W4} {r:List UInt8} (h:itemL t=some (x,r)) {u:List UInt8} (hu:Fits r u):itemL (t++u)=some (x,r++u):=by
 unfold itemL at h ⊢
 cases hm:memL t with
 | none=>rw [hm] at h;cases h
 | some a =>
  obtain ⟨a,t1⟩:=a
  rw [hm] at h
  rw [mem_ext hm u]
  cases t1 with
  | nil =>
   cases h
   have h41:u.headD 0=41:=hu.resolve_left (fun g=>g rfl)
   rw [List.nil_append]
   cases u with
   | nil=>rfl
   | cons c u =>
    have hc:c=41:=h41
    subst hc
    rfl
  | cons c t1 =>
   dsimp only [List.cons_append] at h ⊢
   split at h
   ·rename_i hc
    rw [if_pos hc]
    cases hm2:memL t1 with
    | none=>rw [hm2] at h;cases h
    | some b =>
     obtain ⟨b,t2⟩:=b
     rw [hm2] at h
     rw [mem_ext hm2 u]
     dsimp only at h ⊢
     split at h
     ·rename_i hk;cases h;rw [if_pos hk]
     ·cases h
   ·rename_i hc;cases h;rw [if_neg hc];rfl
theorem cls_ext:∀ {f:Nat} {acc:W4} {first:Bool} {t:List UInt8} {x:W4} {r:List UInt8},clsL f acc first t=some (x,r)→∀ u,clsL f acc first (t++u)=some (x,r++u)
 | 0,_,_,_,_,_,h,_=>by simp [clsL] at h
 | f + 1,acc,first,t,x,r,h,u=>by
  unfold clsL at h ⊢
  have hne:t≠[]:=fun e=>by
   rw [e] at h
   simp [itemL,memL] at h
  rw [hd_app hne]
  split at h
  ·rename_i hc;cases h;rw [if_pos hc,tail_app hne]
  ·rename_i hc
   rw [if_neg hc]
   cases hi:itemL t with
   | none=>rw [hi] at h;cases h
   | some a =>
    obtain ⟨a,t1⟩:=a
    rw [hi] at h
    have h1:t1≠[]:=fun e=>by
     rw [e] at h
     dsimp only at h
     cases f with
     | zero=>simp [clsL] at h
     | succ f=>simp [clsL,itemL,memL] at h
    rw [item_ext hi (.inl h1)]
    exact cls_ext h u
theorem class_ext {t:List UInt8} {x:W4} {r:List UInt8} (h:classL t=some (x,r)) (u:List UInt8):classL (t++u)=some (x,r++u):=by
 have hne:t≠[]:=fun e=>by
  rw [e] at h
  simp [classL,clsL,itemL,memL] at h
 unfold classL at h ⊢
 rw [hd_app hne]
 have e:(if t.headD 0=94 then (t++u).tail else t++u)=(if t.headD 0=94 then t.tail else t)++u:=by
  split
  ·exact tail_app hne
  ·rfl
 rw [e]
 cases hc:clsL (t.length + 1) W4.zero true (if t.headD 0=94 then t.tail else t) with
 | none=>rw [hc] at h;cases h
 | some a =>
  obtain ⟨a,t1⟩:=a
  rw [hc] at h
  have hlen:(if t.headD 0=94 then t.tail else t).length≤t.length:=by split <;> simp
  have h3:clsL ((t++u).length + 1) W4.zero true ((if t.headD 0=94 then t.tail else t)++u)=some (a,t1++u):=by
   have h2:=cls_ext hc u
   have mono:∀ (f g:Nat) (acc:W4) (first:Bool) (t:List UInt8) (y:W4 × List UInt8),f≤g→clsL f acc first t=some y→clsL g acc first t=some y:=by
    intro f
    induction f with
    | zero=>intro g acc first t y _ h;simp [clsL] at h
    | succ f ih =>
     intro g acc first t y hg h
     obtain ⟨g,rfl⟩:∃ k,g=k + 1:=⟨g - 1,by omega⟩
     unfold clsL at h ⊢
     split at h
     ·rename_i hc;rw [if_pos hc];exact h
     ·rename_i hc
      rw [if_neg hc]
      split at h
      ·cases h
      ·exact ih g _ _ _ _ (by omega) h
   exact mono _ _ _ _ _ _ (by simp) h2
  rw [h3]
  dsimp only at h ⊢
  split at h
  ·rename_i h94
   rw [if_pos h94]
   split at h
   ·cases h
   ·rename_i hz;cases h;rw [if_neg hz]
  ·rename_i h94
   rw [if_neg h94]
   split at h
   ·cases h
   ·rename_i hz;cases h;rw [if_neg hz]
theorem isDig_41:isDig 41=false:=by decide
theorem num_ext {t:List UInt8} {v:Int} {r:List UInt8} (h:numL t=some (v,r)) {u:List UInt8} (hu:Fits r u):numL (t++u)=some (v,r++u):=by
 have hr:r=t.dropWhile isDig:=by
  unfold numL at h
  split at h
  ·cases h;rfl
  ·cases h
 have e:t=t.takeWhile isDig++t.dropWhile isDig:=(List.takeWhile_append_dropWhile).symm
 have hd:isDig ((t.dropWhile isDig++u).headD 0)=false:=by
  cases hq:t.dropWhile isDig with
  | nil =>
   have:u.headD 0=41:=hu.resolve_left (fun g=>g (by rw [hr,hq]))
   rw [List.nil_append,this];exact isDig_41
  | cons c l =>
   have hc:¬ isDig c=true:=by
    have h1:=@List.head_dropWhile_not _ isDig t (by rw [hq];simp)
    simpa [hq] using h1
   show isDig c=false
   simpa using hc
 have hall:(t.takeWhile isDig).all isDig=true:=List.all_takeWhile
 obtain ⟨w1,w2⟩:=while_digs (t:=t.dropWhile isDig++u) hall hd
 unfold numL at h ⊢
 have e2:t++u=t.takeWhile isDig++(t.dropWhile isDig++u):=by rw [← List.append_assoc,← e]
 rw [e2,w1,w2]
 split at h
 ·rename_i hc;cases h;rw [if_pos hc]
 ·cases h
theorem brc_ext {t:List UInt8} {a b:Int} {r:List UInt8} (h:brcL t=some (a,b,r)) (u:List UInt8):brcL (t++u)=some (a,b,r++u):=by
 unfold brcL at h ⊢
 cases hm:numL t with
 | none=>rw [hm] at h;cases h
 | some x =>
  obtain ⟨v,t1⟩:=x
  rw [hm] at h
  have hne:t1≠[]:=fun e=>by
   rw [e] at h
   simp at h
  rw [num_ext hm (.inl hne)]
  dsimp only at h ⊢
  rw [hd_app hne,tail_app hne]
  split at h
  ·rename_i hc;cases h;rw [if_pos hc]
  ·rename_i hc
   rw [if_neg hc]
   split at h
   ·rename_i hc2
    rw [if_pos hc2]
    have hne2:t1.tail≠[]:=fun e=>by
     rw [e] at h
     rw [show numL []=none by decide +kernel] at h
     simp at h
    rw [hd_app hne2,tail_app hne2]
    split at h
    ·rename_i hc3;cases h;rw [if_pos hc3]
    ·rename_i hc3
     rw [if_neg hc3]
     cases hm2:numL t1.tail with
     | none=>rw [hm2] at h;cases h
     | some y =>
      obtain ⟨v2,t2⟩:=y
      rw [hm2] at h
      dsimp only at h
      split at h
      ·rename_i hc4
       cases h
       have hne3:t2≠[]:=ne_of_hd (by decide) hc4.1
       rw [num_ext hm2 (.inl hne3)]
       dsimp only
       rw [hd_app hne3,tail_app hne3,if_pos hc4]
      ·cases h
   ·cases h
def Ext (rec:List UInt8→RL) (N:Nat):Prop:=∀ t n r,t.length < N→rec t=some (n,r)→∀ u,Fits r u→rec (t++u)=some (n,r++u)
theorem atom_ext {t:List UInt8} {n:Node} {r:List UInt8} (hx:Ext rdA t.length) (h:atomL rdA t=some (n,r)) (u:List UInt8):atomL rdA (t++u)=some (n,r++u):=by
 cases t with
 | nil=>cases h
 | cons b t =>
  have hx':Ext rdA (t.length + 1):=hx
  unfold atomL at h
  rw [List.cons_append]
  unfold atomL
  dsimp only at h ⊢
  split at h
  ·rename_i hb
   rw [if_pos hb]
   cases hm:rdA t with
   | none=>rw [hm] at h;cases h
   | some x =>
    obtain ⟨n',t1⟩:=x
    rw [hm] at h
    dsimp only at h
    split at h
    ·rename_i hc
     cases h
     have hne:t1≠[]:=ne_of_hd (by decide) hc
     rw [hx' t _ t1 (by omega) hm u (.inl hne)]
     dsimp only
     rw [hd_app hne,if_pos hc,tail_app hne]
    ·cases h
  rename_i h0;rw [if_neg h0]
  split at h
  ·rename_i hb;cases h;rw [if_pos hb]
  rename_i h1;rw [if_neg h1]
  split at h
  ·rename_i hb;cases h;rw [if_pos hb]
  rename_i h2;rw [if_neg h2]
  split at h
  ·rename_i hb;cases h;rw [if_pos hb]
  rename_i h3;rw [if_neg h3]
  split at h
  ·rename_i hb
   rw [if_pos hb]
   cases hm:escL t with
   | none=>rw [hm] at h;cases h
   | some x =>
    obtain ⟨w,t1⟩:=x
    rw [hm] at h
    cases h
    rw [esc_ext hm u]
  rename_i h4;rw [if_neg h4]
  split at h
  ·rename_i hb
   rw [if_pos hb]
   cases hm:classL t with
   | none=>rw [hm] at h;cases h
   | some x =>
    obtain ⟨w,t1⟩:=x
    rw [hm] at h
    cases h
    rw [class_ext hm u]
  rename_i h5;rw [if_neg h5]
  split at h
  ·cases h
  ·rename_i hb;cases h;rw [if_neg hb]
theorem times_ext {m n:Node} {t r:List UInt8} (h:timesL m t=some (n,r)) {u:List UInt8} (hu:Fits r u):timesL m (t++u)=some (n,r++u):=by
 by_cases hne:t=[]
 ·subst hne
  have e:timesL m []=some (m,[]):=rfl
  rw [e] at h
  cases h
  have h41:u.headD 0=41:=hu.resolve_left (fun g=>g rfl)
  exact times_no (by rw [List.nil_append,h41];decide)
 ·unfold timesL at h ⊢
  rw [hd_app hne,tail_app hne]
  split at h
  ·rename_i hc;cases h;rw [if_pos hc]
  rename_i h0;rw [if_neg h0]
  split at h
  ·rename_i hc;cases h;rw [if_pos hc]
  rename_i h1;rw [if_neg h1]
  split at h
  ·rename_i hc;cases h;rw [if_pos hc]
  rename_i h2;rw [if_neg h2]
  split at h
  ·rename_i hc
   rw [if_pos hc]
   cases hm:brcL t.tail with
   | none=>rw [hm] at h;cases h
   | some x =>
    obtain ⟨lo,hi,t1⟩:=x
    rw [hm] at h
    cases h
    rw [brc_ext hm u]
  ·rename_i hc;cases h;rw [if_neg hc]
theorem piece_ext {t:List UInt8} {n:Node} {r:List UInt8} (hx:Ext rdA t.length) (h:rdP t=some (n,r)) {u:List UInt8} (hu:Fits r u):rdP (t++u)=some (n,r++u):=by
 unfold rdP pieceL at h ⊢
 cases hm:atomL rdA t with
 | none=>rw [hm] at h;cases h
 | some x =>
  obtain ⟨m,t1⟩:=x
  rw [hm] at h
  rw [atom_ext hx hm u]
  exact times_ext h hu
theorem rdO_ext:∀ (N:Nat) (A O:List Node) (t:List UInt8) (A' O':List Node) (r:List UInt8),t.length < N→Ext rdA t.length→rdO A O t=some (A',O',r)→∀ u,Fits r u→rdO A O (t++u)=some (A',O',r++u)
 | 0,_,_,_,_,_,_,h,_,_,_,_=>by omega
 | N + 1,A,O,t,A',O',r,hN,hx,h,u,hu=>by
  rw [rdO_eq] at h ⊢
  by_cases hne:t=[]
  ·subst hne
   rw [if_pos (.inl rfl)] at h
   cases h
   have h41:u.headD 0=41:=hu.resolve_left (fun g=>g rfl)
   rw [if_pos (.inr (by rw [List.nil_append];exact h41))]
  ·have hne2:¬ t++u=[]:=fun e=>hne (List.append_eq_nil_iff.1 e).1
   rw [hd_app hne,tail_app hne]
   have hlt:t.tail.length < t.length:=by
    cases t with
    | nil=>exact absurd rfl hne
    | cons c t=>simp
   split at h
   ·rename_i hc
    cases h
    have:t.headD 0=41:=hc.resolve_left hne
    rw [if_pos (.inr this)]
   ·rename_i hc
    rw [if_neg (fun g=>hc (.inr (g.resolve_left hne2)))]
    split at h
    ·rename_i hc2
     rw [if_pos hc2]
     exact rdO_ext N _ _ _ _ _ _ (by omega) (fun t' n' r' h1=>hx t' n' r' (by omega)) h u hu
    ·rename_i hc2
     rw [if_neg hc2]
     cases hm:rdP t with
     | none=>rw [hm] at h;cases h
     | some x =>
      obtain ⟨n,t1⟩:=x
      rw [hm] at h
      dsimp only at h
      have hl:=piece_len rdA_dec hm
      have hf:Fits t1 u:=by
       by_cases h1:t1=[]
       ·subst h1
        rw [rdO_eq,if_pos (.inl rfl)] at h
        cases h
        exact hu
       ·exact .inl h1
      rw [piece_ext hx hm hf]
      exact rdO_ext N _ _ _ _ _ _ (by omega) (fun t' n' r' h1=>hx t' n' r' (by omega)) h u hu
theorem rdA_ext:∀ N,Ext rdA N
 | 0=>fun t n r h=>by omega
 | N + 1=>fun t n r hN h u hu=>by
  rw [rdA_eq] at h ⊢
  cases hm:rdO [] [] t with
  | none=>rw [hm] at h;cases h
  | some x =>
   obtain ⟨A,O,t1⟩:=x
   rw [hm] at h
   cases h
   rw [rdO_ext (t.length + 1) [] [] t A O r (by omega) (fun t' n' r' h1=>rdA_ext N t' n' r' (by omega)) hm u hu]
theorem rd_group {a:List UInt8} {n:Node} (h:rdA a=some (n,[])) (u:List UInt8):atomL rdA (brk a++u)=some (n,u):=by
 have h1:=rdA_ext (a.length + 1) a n [] (by omega) h (41::u) (.inr rfl)
 show atomL rdA (40::((a++[41])++u))=_
 rw [List.append_assoc]
 unfold atomL
 dsimp only
 rw [if_pos rfl,show a++([41]++u)=a++41::u from rfl,h1]
 dsimp only
 rw [List.nil_append,if_pos (show (41::u).headD 0=41 from rfl)]
 rfl
theorem rd_groupP {a:List UInt8} {n:Node} (h:rdA a=some (n,[])) {u:List UInt8} (hu:quant (u.headD 0)=false):rdP (brk a++u)=some (n,u):=by
 unfold rdP pieceL
 rw [rd_group h]
 exact times_no hu
theorem rdO_grp {a:List UInt8} {n:Node} (h:rdA a=some (n,[])) {A O:List Node} {u:List UInt8} (hu:quant (u.headD 0)=false):rdO A O (brk a++u)=rdO A (O++[n]) u:=by
 obtain ⟨g1,g2,g3,_⟩:=brk_hd a u
 rw [rdO_eq,if_neg (fun g=>g.elim g1 g2),if_neg g3,rd_groupP h hu]
end Go.Proofs.YtanopbolgfcojaaGreatDoor.E.SZ
/- Brackets, sequences and choices. -/
namespace Go.Proofs.YtanopbolgfcojaaGreatDoor.E.SZ
open Go Go.Proofs E E.R
/-- nodes one behind the other, of what stands there -/
def mkC (f : List Node) : Node := match f with
  | [] => .empty
  | [n] => n
  | f => .mk 4 W4.zero 0 0 f
theorem full_flat : ∀ {l : List Node}, (∀ n ∈ l, Shape n) → full (flatF 4 l) = (l.map pieces).flatten
  | [], _ => rfl
  | n :: l, h => by
    have ih := full_flat (l := l) fun q hq => h q (by simp [hq])
    have hs := h n (by simp)
    have e : full (if n.kind = 4 then n.kids else [n]) = pieces n := by
      unfold pieces
      cases hs with
      | empty => rfl
      | one => rfl
      | beg => rfl
      | fin => rfl
      | cat l _ hk => exact full_self fun k hk' => (hk k hk').1
      | alt => rfl
      | rep => rfl
    simp only [flatF, List.map_cons, List.flatten_cons, ← e, ← ih]
    unfold full
    rw [List.filter_append]
theorem catF_mk {l : List Node} (h : ∀ n ∈ l, Shape n) : catF l = mkC ((l.map pieces).flatten) := by
  unfold catF mkC
  rw [full_flat h]
  try rfl
theorem pieces_kind {n k : Node} (h : Shape n) (hk : k ∈ pieces n) : k.kind ≠ 0 ∧ k.kind ≠ 4 := by
  unfold pieces at hk
  cases h with
  | empty => cases hk
  | cat l _ hl => exact hl k hk
  | one => rw [List.mem_singleton.1 hk]; exact ⟨by simp [Node.kind], by simp [Node.kind]⟩
  | beg => rw [List.mem_singleton.1 hk]; exact ⟨by simp [Node.kind], by simp [Node.kind]⟩
  | fin => rw [List.mem_singleton.1 hk]; exact ⟨by simp [Node.kind], by simp [Node.kind]⟩
  | alt => rw [List.mem_singleton.1 hk]; exact ⟨by simp [Node.kind], by simp [Node.kind]⟩
  | rep => rw [List.mem_singleton.1 hk]; exact ⟨by simp [Node.kind], by simp [Node.kind]⟩
theorem pieces_mkC {f : List Node} (h : ∀ k ∈ f, k.kind ≠ 0 ∧ k.kind ≠ 4) : pieces (mkC f) = f := by
  match f with
  | [] => rfl
  | [n] =>
    have := h n (by simp)
    show pieces n = [n]
    unfold pieces
    rw [if_neg this.1, if_neg this.2]
  | a :: b :: f => rfl
theorem cat_one {n : Node} (h : NormE n) : catF [n] = n := by
  by_cases h5 : n.kind = 5
  · have hs := h.shape
    cases hs with
    | alt => rfl
    | _ => simp [Node.kind] at h5
  · have h1 := cat_pieces h.shape h5
    rw [catF_mk (by intro k hk; have : k = n := by simpa using hk
                    rw [this]; exact h.shape)]
    rw [← h1, catF_mk (fun k hk => ?_)]
    · simp only [List.map_cons, List.map_nil, List.flatten_cons, List.flatten_nil, List.append_nil]
      rw [pieces_mkC]
      intro k hk
      obtain ⟨p, hp, hk⟩ := List.mem_flatten.1 hk
      obtain ⟨q, hq, rfl⟩ := List.mem_map.1 hp
      have hs := h.shape
      exact pieces_kind (by
        unfold pieces at hq
        split at hq
        · cases hq
        · split at hq
          · exact (h.kid hq).shape
          · have : q = n := by simpa using hq
            rw [this]; exact hs) hk
    · unfold pieces at hk
      split at hk
      · cases hk
      · split at hk
        · exact (h.kid hk).shape
        · have : k = n := by simpa using hk
          rw [this]; exact h.shape
theorem brk_q {p u : List UInt8} : quant ((brk p ++ u).headD 0) = false := (brk_hd p u).2.2.2
theorem rdA_two {a b : List UInt8} {x y : Node} (ha : rdA a = some (x, [])) (hb : rdA b = some (y, [])) : rdA (brk a ++ brk b) = some (catF [x, y], []) := by
  have h1 := rdO_grp ha (A := []) (O := []) (u := brk b) (by have := brk_q (p := b) (u := []); rw [List.append_nil] at this; exact this)
  have h2 := rdO_grp hb (A := []) (O := [x]) (u := []) rfl
  rw [List.append_nil] at h2
  rw [rdA_eq, h1]
  show (match rdO [] [x] (brk b) with | none => none | some (A, O, t') => some (endF (A ++ [catF O]), t')) = _
  rw [h2, rdO_end (.inl rfl)]
  rfl
theorem rdA_or {a b : List UInt8} {x y : Node} (ha : rdA a = some (x, [])) (hb : rdA b = some (y, [])) : rdA (brk a ++ 124 :: brk b) = some (endF [x, y], []) := by
  have h1 := rdO_grp ha (A := []) (O := []) (u := 124 :: brk b) (show quant 124 = false by decide)
  have h2 := rdO_grp hb (A := [x]) (O := []) (u := []) rfl
  rw [List.append_nil] at h2
  rw [rdA_eq, h1, rdO_bar]
  show (match rdO [catF [x]] [] (brk b) with | none => none | some (A, O, t') => some (endF (A ++ [catF O]), t')) = _
  rw [cat_one (rdA_norm _ _ _ ha), h2, rdO_end (.inl rfl)]
  show some (endF ([x] ++ [catF [y]]), []) = _
  rw [cat_one (rdA_norm _ _ _ hb)]
  rfl
def fl5 (n : Node) : List Node := if n.kind = 5 then n.kids else [n]
theorem flatF_cons {n : Node} {l : List Node} : flatF 5 (n :: l) = fl5 n ++ flatF 5 l := rfl
end Go.Proofs.YtanopbolgfcojaaGreatDoor.E.SZ
namespace Go.Proofs.YtanopbolgfcojaaGreatDoor.E.SZ.N
open Go Go.Proofs E E.R
abbrev fHas : Nat := 46
abbrev fPut : Nat := 28
abbrev fAt : Nat := 29
abbrev fStep : Nat := 30
abbrev fMatches : Nat := 21
abbrev natAV (k : Nat) : AV := .int .i64 (k : Int)

theorem shr_ok {x : BitVec 64} {m : Nat} (h : m < 64) : shiftE .shr .u64 (x.toNat : Int) (m : Int) = some (.int .u64 ((x >>> m).toNat : Int)) := by
  unfold shiftE
  rw [decide_eq_false (by omega), cond_false rfl]
  have e : Nat.min (Int.toNat (m : Int)) IntKind.u64.bits = m := by
    show min (Int.toNat (m : Int)) 64 = m
    omega
  simp only [e]
  congr 2
  have h2 : (0 : Int) ≤ 2 ^ m := Int.pow_nonneg (by omega)
  rw [Int.fdiv_eq_ediv_of_nonneg _ h2]
  have : ((x.toNat : Int) / 2 ^ m) = ((x.toNat / 2 ^ m : Nat) : Int) := by simp
  rw [this, BitVec.toNat_ushiftRight, Nat.shiftRight_eq_div_pow]
theorem shr_fd {x : BitVec 64} {r : Nat} (h : r < 64) : (x.toNat : Int).fdiv (2 ^ ((r : Int).toNat.min IntKind.u64.bits)) = ((x >>> r).toNat : Int) := by
  have := shr_ok (x := x) h
  unfold shiftE at this
  rw [decide_eq_false (by omega), cond_false rfl] at this
  simpa using this
theorem bit_ok {x : BitVec 64} {m : Nat} (h : m < 64) : ((IntKind.u64.wrap ((BitVec.ofInt IntKind.u64.bits ((x >>> m).toNat : Int) &&& BitVec.ofInt IntKind.u64.bits 1).toNat : Int) == 1)) = x.getLsbD m := by
  rw [ofInt_w]
  have e1 : BitVec.ofInt IntKind.u64.bits 1 = 1#64 := rfl
  rw [e1]
  have e2 : ((x >>> m) &&& 1#64).toNat = (x.getLsbD m).toNat := by
    rw [BitVec.toNat_and, BitVec.toNat_ushiftRight, BitVec.getLsbD, Nat.testBit]
    simp [Nat.and_comm, Nat.one_and_eq_mod_two]
    have := Nat.mod_two_eq_zero_or_one (x.toNat >>> m)
    rcases this with h | h <;> simp [h]
  have e3 : IntKind.u64.wrap (((x >>> m &&& 1#64).toNat : Nat) : Int) = ((x.getLsbD m).toNat : Int) := by
    rw [e2, wrap_u64 (by omega) (by have := Bool.toNat_lt (x.getLsbD m); omega)]
  show ((IntKind.u64.wrap (((x >>> m &&& 1#64).toNat : Nat) : Int)) == 1) = _
  rw [e3]
  cases x.getLsbD m <;> rfl
theorem quo64 {c j : Nat} (h : c / 64 = j) (hc : c < 256) : IntKind.wrap .u8 (Int.tdiv (c : Int) 64) = (j : Int) := by
  have : Int.tdiv (c : Int) 64 = (j : Int) := by rw [Int.tdiv_eq_ediv_of_nonneg (by omega)]; omega
  rw [this]; exact wrap_u8 (by omega) (by omega)
theorem rem64 {c r : Nat} (h : c % 64 = r) : Int.tmod (c : Int) 64 = (r : Int) := by
  rw [Int.tmod_eq_emod_of_nonneg (by omega)]; omega

theorem has0 {m : Int} {fl : Nat} {hp : List Blk} {s : W4} {c : UInt8} {r : Nat} (hq : IntKind.wrap .u8 (Int.tdiv (c.toNat : Int) 64) = 0) (hr : Int.tmod (c.toNat : Int) 64 = (r : Int)) (hl : r < 64) : evI (cfg m) fl fHas [.agg s.av, .int .u8 c.toNat] hp = some (.bool (s.a.getLsbD r), hp) := by
  rcases bcases (s.a.getLsbD r) with h1 | h1
  · exact evX (AV.bool true) (hp) [.w 1 1 IntKind.u8 (0) hq, .w 1 5 IntKind.u8 ((↑r : Int)) hr, .w 1 6 IntKind.u64 ((↑(s.a >>> r).toNat : Int)) (N.shr_fd (x := s.a) hl), .b 1 8 (((N.bit_ok (x := s.a) hl)).trans h1)] (by kernel_rfl) (tlP (by kernel_rfl) rfl (shutT (v := AV.bool true) (v' := AV.bool true) (by kernel_rfl))) (by rw [h1])
  · exact evX (AV.bool false) (hp) [.w 1 1 IntKind.u8 (0) hq, .w 1 5 IntKind.u8 ((↑r : Int)) hr, .w 1 6 IntKind.u64 ((↑(s.a >>> r).toNat : Int)) (N.shr_fd (x := s.a) hl), .b 1 8 (((N.bit_ok (x := s.a) hl)).trans h1)] (by kernel_rfl) (tlP (by kernel_rfl) rfl (shutT (v := AV.bool false) (v' := AV.bool false) (by kernel_rfl))) (by rw [h1])
theorem has1 {m : Int} {fl : Nat} {hp : List Blk} {s : W4} {c : UInt8} {r : Nat} (hq : IntKind.wrap .u8 (Int.tdiv (c.toNat : Int) 64) = 1) (hr : Int.tmod (c.toNat : Int) 64 = (r : Int)) (hl : r < 64) : evI (cfg m) fl fHas [.agg s.av, .int .u8 c.toNat] hp = some (.bool (s.b.getLsbD r), hp) := by
  rcases bcases (s.b.getLsbD r) with h1 | h1
  · exact evX (AV.bool true) (hp) [.w 1 1 IntKind.u8 (1) hq, .w 1 5 IntKind.u8 ((↑r : Int)) hr, .w 1 6 IntKind.u64 ((↑(s.b >>> r).toNat : Int)) (N.shr_fd (x := s.b) hl), .b 1 8 (((N.bit_ok (x := s.b) hl)).trans h1)] (by kernel_rfl) (tlP (by kernel_rfl) rfl (shutT (v := AV.bool true) (v' := AV.bool true) (by kernel_rfl))) (by rw [h1])
  · exact evX (AV.bool false) (hp) [.w 1 1 IntKind.u8 (1) hq, .w 1 5 IntKind.u8 ((↑r : Int)) hr, .w 1 6 IntKind.u64 ((↑(s.b >>> r).toNat : Int)) (N.shr_fd (x := s.b) hl), .b 1 8 (((N.bit_ok (x := s.b) hl)).trans h1)] (by kernel_rfl) (tlP (by kernel_rfl) rfl (shutT (v := AV.bool false) (v' := AV.bool false) (by kernel_rfl))) (by rw [h1])
theorem has2 {m : Int} {fl : Nat} {hp : List Blk} {s : W4} {c : UInt8} {r : Nat} (hq : IntKind.wrap .u8 (Int.tdiv (c.toNat : Int) 64) = 2) (hr : Int.tmod (c.toNat : Int) 64 = (r : Int)) (hl : r < 64) : evI (cfg m) fl fHas [.agg s.av, .int .u8 c.toNat] hp = some (.bool (s.c.getLsbD r), hp) := by
  rcases bcases (s.c.getLsbD r) with h1 | h1
  · exact evX (AV.bool true) (hp) [.w 1 1 IntKind.u8 (2) hq, .w 1 5 IntKind.u8 ((↑r : Int)) hr, .w 1 6 IntKind.u64 ((↑(s.c >>> r).toNat : Int)) (N.shr_fd (x := s.c) hl), .b 1 8 (((N.bit_ok (x := s.c) hl)).trans h1)] (by kernel_rfl) (tlP (by kernel_rfl) rfl (shutT (v := AV.bool true) (v' := AV.bool true) (by kernel_rfl))) (by rw [h1])
  · exact evX (AV.bool false) (hp) [.w 1 1 IntKind.u8 (2) hq, .w 1 5 IntKind.u8 ((↑r : Int)) hr, .w 1 6 IntKind.u64 ((↑(s.c >>> r).toNat : Int)) (N.shr_fd (x := s.c) hl), .b 1 8 (((N.bit_ok (x := s.c) hl)).trans h1)] (by kernel_rfl) (tlP (by kernel_rfl) rfl (shutT (v := AV.bool false) (v' := AV.bool false) (by kernel_rfl))) (by rw [h1])
theorem has3 {m : Int} {fl : Nat} {hp : List Blk} {s : W4} {c : UInt8} {r : Nat} (hq : IntKind.wrap .u8 (Int.tdiv (c.toNat : Int) 64) = 3) (hr : Int.tmod (c.toNat : Int) 64 = (r : Int)) (hl : r < 64) : evI (cfg m) fl fHas [.agg s.av, .int .u8 c.toNat] hp = some (.bool (s.d.getLsbD r), hp) := by
  rcases bcases (s.d.getLsbD r) with h1 | h1
  · exact evX (AV.bool true) (hp) [.w 1 1 IntKind.u8 (3) hq, .w 1 5 IntKind.u8 ((↑r : Int)) hr, .w 1 6 IntKind.u64 ((↑(s.d >>> r).toNat : Int)) (N.shr_fd (x := s.d) hl), .b 1 8 (((N.bit_ok (x := s.d) hl)).trans h1)] (by kernel_rfl) (tlP (by kernel_rfl) rfl (shutT (v := AV.bool true) (v' := AV.bool true) (by kernel_rfl))) (by rw [h1])
  · exact evX (AV.bool false) (hp) [.w 1 1 IntKind.u8 (3) hq, .w 1 5 IntKind.u8 ((↑r : Int)) hr, .w 1 6 IntKind.u64 ((↑(s.d >>> r).toNat : Int)) (N.shr_fd (x := s.d) hl), .b 1 8 (((N.bit_ok (x := s.d) hl)).trans h1)] (by kernel_rfl) (tlP (by kernel_rfl) rfl (shutT (v := AV.bool false) (v' := AV.bool false) (by kernel_rfl))) (by rw [h1])
theorem has_ok {m : Int} {fl : Nat} {hp : List Blk} {a b c d : BitVec 64} {x : UInt8} : evI (cfg m) fl fHas [.agg [wAV a, wAV b, wAV c, wAV d], .int .u8 x.toNat] hp = some (.bool (W4.has ⟨a, b, c, d⟩ x.toNat), hp) := by
  have hx := x.toNat_lt
  have hl : x.toNat % 64 < 64 := Nat.mod_lt _ (by omega)
  unfold W4.has W4.word
  rcases (by omega : x.toNat / 64 = 0 ∨ x.toNat / 64 = 1 ∨ x.toNat / 64 = 2 ∨ x.toNat / 64 = 3) with h | h | h | h <;> rw [h]
  · exact has0 (s := ⟨a, b, c, d⟩) (quo64 h (by omega)) (rem64 rfl) hl
  · exact has1 (s := ⟨a, b, c, d⟩) (quo64 h (by omega)) (rem64 rfl) hl
  · exact has2 (s := ⟨a, b, c, d⟩) (quo64 h (by omega)) (rem64 rfl) hl
  · exact has3 (s := ⟨a, b, c, d⟩) (quo64 h (by omega)) (rem64 rfl) hl

/-- states that come to a text's place, each once -/
def putF : List Bool → List Nat → List Nat → List Bool × List Nat
  | m, l, [] => (m, l)
  | m, l, k :: ks => if m.getD k true = true then putF m l ks else putF (m.set k true) (l ++ [k]) ks


abbrev putSt (rb : Nat) (x : AV) (n i : Nat) : List TV := [.v (.ptr rb 0), J, J, J, J, J, .v x, .v (AI n), .v (AI i)] ++ List.replicate 28 J
abbrev putEnd : List TV := List.replicate 37 J
theorem append_nat {m : Int} {fl : Nat} {hp : List Blk} {x : AV} {l : List Nat} {k : Nat} (h : Gr fl 1 hp x (l.map natAV)) (hl : l.length < 1000000) (hf : fl ≤ hp.length) :
    ∃ x' hp', (∀ ts, builtinE (cfg m) fl false ⟨ts, hp⟩ .append [67, 67] [x, .lit 1 .exact [natAV k]] = some ⟨.v x', ts, hp', .fw⟩) ∧ Gr fl 1 hp' x' ((l ++ [k]).map natAV) ∧ FrC [] hp hp' := by
  obtain ⟨x', hp', h1, h2, h3⟩ := append_gr (C := cfg m) (t := 67) (y := .lit 1 .exact [natAV k]) (ws := [natAV k]) (bytes := 8) h (by rfl) (by kernel_rfl) (by simp) (by simp; omega) hf
  exact ⟨x', hp', h1, by simpa using h2, h3⟩
theorem list_set_len {n : Nat} {ms : List Bool} {k : Nat} (h : ms.length = n) : (ms.set k true).length = n := by simpa using h
theorem fl_len {fl b : Nat} {hp : List Blk} {cs : List AV} (h : blkCells hp b = some cs) (hf : fl ≤ b) : fl ≤ hp.length := by have := blk_lt h; omega

theorem count_set : ∀ (ms : List Bool) (k : Nat), ms.getD k true = false → (ms.set k true).count false + 1 = ms.count false
  | [], k, h => by simp at h
  | b :: ms, 0, h => by simp at h; subst h; simp
  | b :: ms, k + 1, h => by
    have ih := count_set ms k (by simpa using h)
    simp only [List.set_cons_succ, List.count_cons]; omega
theorem putF_len : ∀ (ks : List Nat) (ms : List Bool) (l : List Nat), (putF ms l ks).1.length = ms.length
  | [], _, _ => rfl
  | k :: ks, ms, l => by unfold putF; split; · exact putF_len ks ms l
                         · rw [putF_len ks]; simp
theorem putF_count : ∀ (ks : List Nat) (ms : List Bool) (l : List Nat), (putF ms l ks).2.length + (putF ms l ks).1.count false = l.length + ms.count false
  | [], _, _ => rfl
  | k :: ks, ms, l => by
    unfold putF; split
    · exact putF_count ks ms l
    · rename_i h
      rw [putF_count ks]
      have := count_set ms k (by simpa using h)
      simp; omega

theorem count_step {n k : Nat} {ms : List Bool} {l : List Nat} (h : l.length + ms.count false = n) (h1 : ms.getD k true = false) : (l ++ [k]).length + (ms.set k true).count false = n := by
  have := count_set ms k h1
  simp; omega

abbrev q0_put_l (rb : Nat) (x : AV) (vs : List AV) (i : Nat) : List TV := [TV.v (AV.ptr rb 0), J, J, J, J, J, TV.v x, TV.v (AI vs.length), TV.v (AI ((↑i : Int) + 1)), J, J, J, J, J, J, J, J, J, J, J, J, J, J, J, J, J, J, J, J, J, J, J, J, J, J, J, J]
theorem put_l {m : Int} {fl rb mb pb n : Nat} {hp : List Blk} {sl x : AV} {s : List UInt8} {ms : List Bool} {l ks : List Nat} {vs : List AV} {i k : Nat} (hb : blkCells hp rb = some [.arr 1 mb 0 n, sl, .ptr pb 0, .str s]) (hm : blkCells hp mb = some (ms.map .bool)) (hn : ms.length = n) (hc : l.length + ms.count false = n) (hg : Gr fl 1 hp sl (l.map natAV)) (hx : IsSl 1 x vs) (hv : vs[i]? = some (natAV k)) (hi : i < vs.length) (hk : k < n) (hf : fl ≤ rb) (hf2 : fl ≤ mb) (hne : rb ≠ mb) (hl : n < 1000000) (hvl : vs.length < 1000000) (ih : ∀ {hp1 : List Blk} {sl1 : AV} {ms1 : List Bool} {l1 : List Nat}, blkCells hp1 rb = some [.arr 1 mb 0 n, sl1, .ptr pb 0, .str s] → blkCells hp1 mb = some (ms1.map .bool) → Gr fl 1 hp1 sl1 (l1.map natAV) → ms1.length = n → l1.length + ms1.count false = n → ∃ hp' sl', LoopI (cfg m) fl fPut (bodyAt (cfg m) fPut 1) 1 ⟨putSt rb x vs.length (i + 1), hp1⟩ (.exit 0) ⟨putEnd, hp'⟩ ∧ blkCells hp' rb = some [.arr 1 mb 0 n, sl', .ptr pb 0, .str s] ∧ blkCells hp' mb = some ((putF ms1 l1 ks).1.map .bool) ∧ Gr fl 1 hp' sl' ((putF ms1 l1 ks).2.map natAV) ∧ FrC [rb, mb] hp1 hp') : ∃ hp' sl', LoopI (cfg m) fl fPut (bodyAt (cfg m) fPut 1) 1 ⟨putSt rb x vs.length i, hp⟩ (.exit 0) ⟨putEnd, hp'⟩ ∧ blkCells hp' rb = some [.arr 1 mb 0 n, sl', .ptr pb 0, .str s] ∧ blkCells hp' mb = some ((putF ms l (k :: ks)).1.map .bool) ∧ Gr fl 1 hp' sl' ((putF ms l (k :: ks)).2.map natAV) ∧ FrC [rb, mb] hp hp' := by
  have zz0 := load_ok (C := cfg m) (t := 66) (off := 0) (x := AV.arr 1 mb 0 n) hb (by kernel_rfl)
  rcases bcases (ms.getD k true) with h1 | h1
  · obtain ⟨hp'2, sl'3, e4, h5, h6, h7, h8⟩ := (ih hb hm hg hn hc)
    exact ⟨hp'2, _, loopStepC (St.mk (q0_put_l rb x vs i) hp) [.b 1 0 (decide_eq_true ((show (↑i : Int) < (↑vs.length : Int) from (by omega)))), .a 2 0 (indexAddr_sl (C := cfg m) (t := 67) (n := (↑i : Int)) hx (by kernel_rfl) (by omega) hv), .m 3 3 zz0, .a 3 5 (indexAddr_arr' (C := cfg m) (t := 66) (sz := 1) (b := mb) (off := 0) (len := n) (o := k) (n := (↑k : Int)) (by kernel_rfl) (by omega) (by omega) (by simp only [Int.toNat_natCast, Nat.zero_add, Nat.mul_one])), .mb 3 6 (load_bools (C := cfg m) (t := 4) (off := k) (by kernel_rfl) hm (by omega)) h1, .w 6 0 IntKind.i64 ((↑i : Int) + 1) (wrap_i64' (by omega))] (by kernel_rfl) e4 rfl, by assumption, by simp only [putF, h1, Bool.false_eq_true, ↓reduceIte]; assumption, by simp only [putF, h1, Bool.false_eq_true, ↓reduceIte]; assumption, by first | assumption | exact FrC.put3 ‹FrC [] _ _› ‹FrC [rb, mb] _ _› (by simp) (by simp)⟩
  · obtain ⟨x'2, hp'3, e4, h5, h6⟩ := (append_nat (m := m) (fl := fl) (hp := setAt hp mb (BC (List.map AV.bool (ms.set k true)))) (x := sl) (l := l) (k := k) (gr_set (c := List.map AV.bool (ms.set k true)) hg hm) (by omega) (fl_len (hp := setAt hp mb (BC (List.map AV.bool (ms.set k true)))) (cs := List.map AV.bool (ms.set k true)) (blk_set (blk_lt hm)) hf2))
    obtain ⟨hp'7, sl'8, e9, h10, h11, h12, h13⟩ := (ih (hp1 := setAt hp'3 rb (BC [AV.arr 1 mb 0 n, x'2, AV.ptr pb 0, AV.str s])) (sl1 := x'2) (ms1 := ms.set k true) (l1 := l ++ [k]) (blk_set (blk_lt (hp := hp'3) (b := rb) (cs := [AV.arr 1 mb 0 n, sl, AV.ptr pb 0, AV.str s]) (frC_blk (b := rb) (cs := [AV.arr 1 mb 0 n, sl, AV.ptr pb 0, AV.str s]) h6 (blk_set_ne (by omega) hb) (by simp_all; done)))) (blk_set_ne hne (frC_blk (b := mb) (cs := List.map AV.bool (ms.set k true)) h6 (blk_set (blk_lt hm)) (by simp_all; done))) (gr_set (b := rb) (cs := [AV.arr 1 mb 0 n, sl, AV.ptr pb 0, AV.str s]) (c := [AV.arr 1 mb 0 n, x'2, AV.ptr pb 0, AV.str s]) h5 (frC_blk (b := rb) (cs := [AV.arr 1 mb 0 n, sl, AV.ptr pb 0, AV.str s]) h6 (blk_set_ne (by omega) hb) (by simp_all; done))) (list_set_len (k := k) hn) (count_step hc h1))
    exact ⟨hp'7, _, loopStepC (St.mk (q0_put_l rb x vs i) (setAt hp'3 rb (BC [AV.arr 1 mb 0 n, x'2, AV.ptr pb 0, AV.str s]))) [.b 1 0 (decide_eq_true ((show (↑i : Int) < (↑vs.length : Int) from (by omega)))), .a 2 0 (indexAddr_sl (C := cfg m) (t := 67) (n := (↑i : Int)) hx (by kernel_rfl) (by omega) hv), .m 3 3 zz0, .a 3 5 (indexAddr_arr' (C := cfg m) (t := 66) (sz := 1) (b := mb) (off := 0) (len := n) (o := k) (n := (↑k : Int)) (by kernel_rfl) (by omega) (by omega) (by simp only [Int.toNat_natCast, Nat.zero_add, Nat.mul_one])), .mb 3 6 (load_bools (C := cfg m) (t := 4) (off := k) (by kernel_rfl) hm (by omega)) h1, .m 4 3 zz0, .a 4 5 (indexAddr_arr' (C := cfg m) (t := 66) (sz := 1) (b := mb) (off := 0) (len := n) (o := k) (n := (↑k : Int)) (by kernel_rfl) (by omega) (by omega) (by simp only [Int.toNat_natCast, Nat.zero_add, Nat.mul_one])), .t 4 6 (store_bools (C := cfg m) (t := 4) (off := k) (hp' := setAt hp mb (BC (List.map AV.bool (ms.set k true)))) (v := true) (by kernel_rfl) hm (by omega) hf2 rfl), .m 5 4 (load_ok (C := cfg m) (t := 67) (b := rb) (off := 1) (hp := setAt hp mb (BC (List.map AV.bool (ms.set k true)))) (cs := [AV.arr 1 mb 0 n, sl, AV.ptr pb 0, AV.str s]) (x := sl) (blk_set_ne (by omega) hb) (by kernel_rfl)), .m 5 7 e4, .t 5 10 (store_sl (C := cfg m) (t := 67) (off := 1) (sz := 1) (hp := hp'3) (hp' := setAt hp'3 rb (BC [AV.arr 1 mb 0 n, x'2, AV.ptr pb 0, AV.str s])) (cs := [AV.arr 1 mb 0 n, sl, AV.ptr pb 0, AV.str s]) (x := x'2) (vs := List.map natAV (l ++ [k])) (Gr.isSl h5) (by kernel_rfl) (frC_blk (b := rb) (cs := [AV.arr 1 mb 0 n, sl, AV.ptr pb 0, AV.str s]) h6 (blk_set_ne (by omega) hb) (by simp_all; done)) (by kernel_rfl) hf rfl), .w 6 0 IntKind.i64 ((↑i : Int) + 1) (wrap_i64' (by omega))] (by kernel_rfl) e9 rfl, by assumption, by simp only [putF, h1, Bool.false_eq_true, ↓reduceIte]; assumption, by simp only [putF, h1, Bool.false_eq_true, ↓reduceIte]; assumption, by first | assumption | exact FrC.put3 ‹FrC [] _ _› ‹FrC [rb, mb] _ _› (by simp) (by simp)⟩

theorem put_x {m : Int} {fl rb : Nat} {hp : List Blk} {x : AV} {n i : Nat} (hi : n ≤ i) : LoopI (cfg m) fl fPut (bodyAt (cfg m) fPut 1) 1 ⟨putSt rb x n i, hp⟩ (.exit 0) ⟨putEnd, hp⟩ := by
  exact loopEndC (.exit 0) (St.mk ([J] ++ Jn 36) hp) [.b 1 0 (decide_eq_false ((show ¬(↑i : Int) < (↑n : Int) from (by omega))))] (by kernel_rfl) (fun h => by cases h) rfl

theorem put_loop {m : Int} {fl rb mb pb n : Nat} {x : AV} {s : List UInt8} {vs : List AV} (hx : IsSl 1 x vs) (hf : fl ≤ rb) (hf2 : fl ≤ mb) (hne : rb ≠ mb) (hl : n < 1000000) (hvl : vs.length < 1000000) : ∀ (ks : List Nat) (i : Nat) {hp : List Blk} {sl : AV} {ms : List Bool} {l : List Nat}, vs.drop i = ks.map natAV → (∀ k ∈ ks, k < n) → blkCells hp rb = some [.arr 1 mb 0 n, sl, .ptr pb 0, .str s] → blkCells hp mb = some (ms.map .bool) → Gr fl 1 hp sl (l.map natAV) → ms.length = n → l.length + ms.count false = n →
    ∃ hp' sl', LoopI (cfg m) fl fPut (bodyAt (cfg m) fPut 1) 1 ⟨putSt rb x vs.length i, hp⟩ (.exit 0) ⟨putEnd, hp'⟩ ∧ blkCells hp' rb = some [.arr 1 mb 0 n, sl', .ptr pb 0, .str s] ∧ blkCells hp' mb = some ((putF ms l ks).1.map .bool) ∧ Gr fl 1 hp' sl' ((putF ms l ks).2.map natAV) ∧ FrC [rb, mb] hp hp'
  | [], i, hp, sl, ms, l, hd, _, hb, hm, hg, hn, hc => by
    have : vs.length ≤ i := by simpa using hd
    exact ⟨hp, sl, put_x this, hb, hm, hg, .refl _ _⟩
  | k :: ks, i, hp, sl, ms, l, hd, hk, hb, hm, hg, hn, hc => by
    have h1 : vs[i]? = some (natAV k) := by
      have := congrArg (·[0]?) hd
      simpa using this
    have hi : i < vs.length := (List.getElem?_eq_some_iff.1 h1).1
    have hd' : vs.drop (i + 1) = ks.map natAV := by
      rw [← List.drop_drop, hd]; rfl
    exact put_l hb hm hn hc hg hx h1 hi (hk k (by simp)) hf hf2 hne hl hvl fun hb1 hm1 hg1 hn1 hc1 => put_loop hx hf hf2 hne hl hvl ks (i + 1) hd' (fun q hq => hk q (by simp [hq])) hb1 hm1 hg1 hn1 hc1

theorem put_lp {m : Int} {fl rb mb pb n nv : Nat} {x : AV} {s : List UInt8} {ks : List Nat} {hp : List Blk} {sl : AV} {ms : List Bool} {l : List Nat} (hb : blkCells hp rb = some [.arr 1 mb 0 n, sl, .ptr pb 0, .str s]) (hm : blkCells hp mb = some (ms.map .bool)) (hg : Gr fl 1 hp sl (l.map natAV)) (hx : IsSl 1 x (ks.map natAV)) (hnv : nv = (ks.map natAV).length) (hf : fl ≤ rb) (hf2 : fl ≤ mb) (hne : rb ≠ mb) (hl : n < 1000000) (hvl : ks.length < 1000000) (hk : ∀ k ∈ ks, k < n) (hn : ms.length = n) (hc : l.length + ms.count false = n) :
    ∃ hp' sl', LoopI (cfg m) fl fPut (bodyAt (cfg m) fPut 1) 1 ⟨putSt rb x nv 0, hp⟩ (.exit 0) ⟨putEnd, hp'⟩ ∧ blkCells hp' rb = some [.arr 1 mb 0 n, sl', .ptr pb 0, .str s] ∧ blkCells hp' mb = some ((putF ms l ks).1.map .bool) ∧ Gr fl 1 hp' sl' ((putF ms l ks).2.map natAV) ∧ FrC [rb, mb] hp hp' :=
  hnv ▸ put_loop hx hf hf2 hne hl (by simpa using hvl) ks 0 rfl hk hb hm hg hn hc

theorem put_ok {m : Int} {fl rb mb pb n : Nat} {x : AV} {s : List UInt8} {ks : List Nat} {hp : List Blk} {sl : AV} {ms : List Bool} {l : List Nat} (hb : blkCells hp rb = some [.arr 1 mb 0 n, sl, .ptr pb 0, .str s]) (hm : blkCells hp mb = some (ms.map .bool)) (hg : Gr fl 1 hp sl (l.map natAV)) (hx : IsSl 1 x (ks.map natAV)) (hf : fl ≤ rb) (hf2 : fl ≤ mb) (hne : rb ≠ mb) (hl : n < 1000000) (hvl : ks.length < 1000000) (hk : ∀ k ∈ ks, k < n) (hn : ms.length = n) (hc : l.length + ms.count false = n) : ∃ hp' sl', evI (cfg m) fl fPut [.ptr rb 0, x] hp = some (.tup [], hp') ∧ blkCells hp' rb = some [.arr 1 mb 0 n, sl', .ptr pb 0, .str s] ∧ blkCells hp' mb = some ((putF ms l ks).1.map .bool) ∧ Gr fl 1 hp' sl' ((putF ms l ks).2.map natAV) ∧ FrC [rb, mb] hp hp' := by
  obtain ⟨hp'1, sl'2, e3, h4, h5, h6, h7⟩ := (put_lp (m := m) (nv := (List.map natAV ks).length) hb hm hg hx rfl hf hf2 hne hl hvl hk hn hc)
  exact ⟨hp'1, _, evX (AV.tup []) (hp'1) [.m 0 1 (len_sl (C := cfg m) (t := 67) (ts' := []) (fl := fl) (ar := false) (hp := hp) hx (by kernel_rfl)), .l 1 e3] (by kernel_rfl) (tlK (by kernel_rfl) rfl) rfl, by assumption, by assumption, by assumption, by assumption⟩
abbrev tState : Nat := 80

/-- a state: what it does, the bytes it takes, where it goes on -/
structure NS where
  kind : Int
  set : W4
  next : List Nat
abbrev nsAV (x : NS) (nx : AV) : List AV := [AI x.kind, wAV x.set.a, wAV x.set.b, wAV x.set.c, wAV x.set.d, nx]
/-- states that lie in a block -/
def StOK (hp : List Blk) (sb : Nat) (st : List NS) : Prop := ∃ cs, blkCells hp sb = some cs ∧ ∀ (i : Nat) (x : NS), st[i]? = some x → ∃ nx, (cs.drop (i * 6)).take 6 = nsAV x nx ∧ IsSl 1 nx (x.next.map natAV)
theorem tyState {m : Int} : (cfg m).ty tState = some ⟨.struct [(0, 3), (1, 40), (5, 67)], 6, 64, [.int .i64 0, .int .u64 0, .int .u64 0, .int .u64 0, .int .u64 0, .nilS], false⟩ := by kernel_rfl
theorem load_state {m : Int} {hp : List Blk} {sb k : Nat} {st : List NS} {x : NS} (h : StOK hp sb st) (hk : st[k]? = some x) :
    ∃ nx, (∀ ts, loadAt (cfg m) ⟨ts, hp⟩ tState (.v (.ptr sb (k * 6))) = some ⟨.v (.agg (nsAV x nx)), ts, hp, .hb sb⟩) ∧ IsSl 1 nx (x.next.map natAV) := by
  obtain ⟨cs, h1, h2⟩ := h
  obtain ⟨nx, h3, h4⟩ := h2 k x hk
  refine ⟨nx, fun ts => ?_, h4⟩
  unfold loadAt
  simp only [tyState, h1, part, TK.agg, cond_true rfl, h3]
  rfl
theorem StOK.fr {S : List Nat} {hp hp' : List Blk} {sb : Nat} {st : List NS} (h : FrC S hp hp') (hs : StOK hp sb st) (hn : sb ∉ S) : StOK hp' sb st := by
  obtain ⟨cs, h1, h2⟩ := hs
  exact ⟨cs, h.2 sb cs hn h1, h2⟩

abbrev atSt (rb : Nat) (pl : Int) (f : Bool) (k : Nat) : List TV := [.v (.ptr rb 0), .v (AI pl), J, J, .v (.bool f), .v (AI k)] ++ List.replicate 63 J
abbrev atEnd (f : Bool) : List TV := [J, J, J, J, .v (.bool f)] ++ List.replicate 64 J

/-- one state of a place -/
def atStep (x : NS) (pl len : Int) (ms : List Bool) (l : List Nat) (f : Bool) : List Bool × List Nat × Bool :=
  if x.kind = 0 then (ms, l, true) else if x.kind = 4 ∨ (x.kind = 2 ∧ pl = 0) ∨ (x.kind = 3 ∧ pl = len) then ((putF ms l x.next).1, (putF ms l x.next).2, f) else (ms, l, f)

abbrev q0_at_l (rb : Nat) (pl : Int) (f : Bool) (k : Nat) : List TV := [TV.v (AV.ptr rb 0), TV.v (AI pl), J, J, TV.v (AV.bool f), TV.v (AI ((↑k : Int) + 1)), J, J, J, J, J, J, J, J, J, J, J, J, J, J, J, J, J, J, J, J, J, J, J, J, J, J, J, J, J, J, J, J, J, J, J, J, J, J, J, J, J, J, J, J, J, J, J, J, J, J, J, J, J, J, J, J, J, J, J, J, J, J, J]
theorem at_l {m : Int} {fl rb mb pb sb n k q : Nat} {hp : List Blk} {sl : AV} {s : List UInt8} {pl : Int} {ms : List Bool} {l : List Nat} {rest : List AV} {st : List NS} {x : NS} {f : Bool} (hb : blkCells hp rb = some [.arr 1 mb 0 n, sl, .ptr pb 0, .str s]) (hm : blkCells hp mb = some (ms.map .bool)) (hg : Gr fl 1 hp sl (l.map natAV)) (hpb : blkCells hp pb = some (.arr 6 sb 0 n :: rest)) (hst : StOK hp sb st) (hx : st[q]? = some x) (hq : q < n) (hv : (l.map natAV)[k]? = some (natAV q)) (hi : k < (l.map natAV).length) (hf : fl ≤ rb) (hf2 : fl ≤ mb) (hne : rb ≠ mb) (hl : n < 1000000) (hvl : x.next.length < 1000000) (hk : ∀ k ∈ x.next, k < n) (hn : ms.length = n) (hc : l.length + ms.count false = n) (hkk : k < 1000000) : ∃ hp' sl', LoopS (cfg m) fl fAt (bodyAt (cfg m) fAt 2) 2 ⟨atSt rb pl f k, hp⟩ ⟨atSt rb pl (atStep x pl s.length ms l f).2.2 (k + 1), hp'⟩ ∧ blkCells hp' rb = some [.arr 1 mb 0 n, sl', .ptr pb 0, .str s] ∧ blkCells hp' mb = some ((atStep x pl s.length ms l f).1.map .bool) ∧ Gr fl 1 hp' sl' ((atStep x pl s.length ms l f).2.1.map natAV) ∧ FrC [rb, mb] hp hp' := by
  have zz2 := load_ok (C := cfg m) (t := 25) (off := 2) (x := AV.ptr pb 0) hb (by kernel_rfl)
  have zz1 := load_ok (C := cfg m) (t := 50) (off := 0) (x := AV.arr 6 sb 0 n) hpb (by kernel_rfl)
  have zz0 := load_ok (C := cfg m) (t := 67) (off := 1) (x := sl) hb (by kernel_rfl)
  obtain ⟨nx1, e2, h3⟩ := (load_state (m := m) hst hx)
  by_cases h4 : x.kind = 0
  · exact ⟨hp, _, loopStepS (St.mk [TV.v (AV.ptr rb 0), TV.v (AI pl), J, J, TV.v (AV.bool true), TV.v (AI ((↑k : Int) + 1)), J, J, J, J, J, J, J, J, J, J, J, J, J, J, J, J, J, J, J, J, J, J, J, J, J, J, J, J, J, J, J, J, J, J, J, J, J, J, J, J, J, J, J, J, J, J, J, J, J, J, J, J, J, J, J, J, J, J, J, J, J, J, J] hp) [.m 2 5 zz0, .m 2 6 (len_sl (C := cfg m) (t := 67) (ts' := []) (fl := fl) (ar := false) (sz := 1) (x := sl) (vs := List.map natAV l) (hp := hp) (Gr.isSl hg) (by kernel_rfl)), .b 2 7 (decide_eq_true ((show (↑k : Int) < (↑(List.map natAV l).length : Int) from (by omega)))), .m 4 3 zz2, .m 4 7 zz1, .m 4 12 zz0, .a 4 14 (indexAddr_sl (C := cfg m) (t := 67) (sz := 1) (x := sl) (n := (↑k : Int)) (Gr.isSl hg) (by kernel_rfl) (by omega) hv), .a 4 16 (indexAddr_arr' (C := cfg m) (t := 50) (sz := 6) (b := sb) (off := 0) (len := n) (o := q * 6) (n := (↑q : Int)) (by kernel_rfl) (by omega) (by omega) (by simp only [Int.toNat_natCast, Nat.zero_add, Nat.mul_one])), .m 4 17 e2, .b 5 2 (beq_iff_eq.2 h4), .w 3 1 IntKind.i64 ((↑k : Int) + 1) (wrap_i64' (by omega))] (by kernel_rfl) (by simp [atStep, *]), by assumption, by simp [atStep, *], by simp [atStep, *], by first | assumption | exact .refl _ _⟩
  · by_cases h5 : x.kind = 4
    · obtain ⟨hp'6, sl'7, e8, h9, h10, h11, h12⟩ := (N.put_ok (m := m) hb hm hg h3 hf hf2 hne hl hvl hk hn hc)
      exact ⟨hp'6, _, loopStepS (St.mk (q0_at_l rb pl f k) hp'6) [.m 2 5 zz0, .m 2 6 (len_sl (C := cfg m) (t := 67) (ts' := []) (fl := fl) (ar := false) (sz := 1) (x := sl) (vs := List.map natAV l) (hp := hp) (Gr.isSl hg) (by kernel_rfl)), .b 2 7 (decide_eq_true ((show (↑k : Int) < (↑(List.map natAV l).length : Int) from (by omega)))), .m 4 3 zz2, .m 4 7 zz1, .m 4 12 zz0, .a 4 14 (indexAddr_sl (C := cfg m) (t := 67) (sz := 1) (x := sl) (n := (↑k : Int)) (Gr.isSl hg) (by kernel_rfl) (by omega) hv), .a 4 16 (indexAddr_arr' (C := cfg m) (t := 50) (sz := 6) (b := sb) (off := 0) (len := n) (o := q * 6) (n := (↑q : Int)) (by kernel_rfl) (by omega) (by omega) (by simp only [Int.toNat_natCast, Nat.zero_add, Nat.mul_one])), .m 4 17 e2, .b 5 2 (beq_false_of_ne h4), .b 7 2 (beq_iff_eq.2 h5), .c 10 5 e8, .w 3 1 IntKind.i64 ((↑k : Int) + 1) (wrap_i64' (by omega))] (by kernel_rfl) (by simp [atStep, *]), by assumption, by simp [atStep, *], by simp [atStep, *], by first | assumption | exact .refl _ _⟩
    · by_cases h6 : x.kind = 2
      · by_cases h7 : pl = 0
        · obtain ⟨hp'8, sl'9, e10, h11, h12, h13, h14⟩ := (N.put_ok (m := m) hb hm hg h3 hf hf2 hne hl hvl hk hn hc)
          exact ⟨hp'8, _, loopStepS (St.mk (q0_at_l rb pl f k) hp'8) [.m 2 5 zz0, .m 2 6 (len_sl (C := cfg m) (t := 67) (ts' := []) (fl := fl) (ar := false) (sz := 1) (x := sl) (vs := List.map natAV l) (hp := hp) (Gr.isSl hg) (by kernel_rfl)), .b 2 7 (decide_eq_true ((show (↑k : Int) < (↑(List.map natAV l).length : Int) from (by omega)))), .m 4 3 zz2, .m 4 7 zz1, .m 4 12 zz0, .a 4 14 (indexAddr_sl (C := cfg m) (t := 67) (sz := 1) (x := sl) (n := (↑k : Int)) (Gr.isSl hg) (by kernel_rfl) (by omega) hv), .a 4 16 (indexAddr_arr' (C := cfg m) (t := 50) (sz := 6) (b := sb) (off := 0) (len := n) (o := q * 6) (n := (↑q : Int)) (by kernel_rfl) (by omega) (by omega) (by simp only [Int.toNat_natCast, Nat.zero_add, Nat.mul_one])), .m 4 17 e2, .b 5 2 (beq_false_of_ne h4), .b 7 2 (beq_false_of_ne h5), .b 8 2 (beq_iff_eq.2 h6), .b 8 5 (beq_iff_eq.2 h7), .c 10 5 e10, .w 3 1 IntKind.i64 ((↑k : Int) + 1) (wrap_i64' (by omega))] (by kernel_rfl) (by simp [atStep, *]), by assumption, by simp [atStep, *], by simp [atStep, *], by first | assumption | exact .refl _ _⟩
        · exact ⟨hp, _, loopStepS (St.mk (q0_at_l rb pl f k) hp) [.m 2 5 zz0, .m 2 6 (len_sl (C := cfg m) (t := 67) (ts' := []) (fl := fl) (ar := false) (sz := 1) (x := sl) (vs := List.map natAV l) (hp := hp) (Gr.isSl hg) (by kernel_rfl)), .b 2 7 (decide_eq_true ((show (↑k : Int) < (↑(List.map natAV l).length : Int) from (by omega)))), .m 4 3 zz2, .m 4 7 zz1, .m 4 12 zz0, .a 4 14 (indexAddr_sl (C := cfg m) (t := 67) (sz := 1) (x := sl) (n := (↑k : Int)) (Gr.isSl hg) (by kernel_rfl) (by omega) hv), .a 4 16 (indexAddr_arr' (C := cfg m) (t := 50) (sz := 6) (b := sb) (off := 0) (len := n) (o := q * 6) (n := (↑q : Int)) (by kernel_rfl) (by omega) (by omega) (by simp only [Int.toNat_natCast, Nat.zero_add, Nat.mul_one])), .m 4 17 e2, .b 5 2 (beq_false_of_ne h4), .b 7 2 (beq_false_of_ne h5), .b 8 2 (beq_iff_eq.2 h6), .b 8 5 (beq_false_of_ne h7), .b 9 2 (beq_false_of_ne ((show ¬x.kind = 3 from (by omega)))), .w 3 1 IntKind.i64 ((↑k : Int) + 1) (wrap_i64' (by omega))] (by kernel_rfl) (by simp [atStep, *]), by assumption, by simp [atStep, *], by simp [atStep, *], by first | assumption | exact .refl _ _⟩
      · by_cases h7 : x.kind = 3
        · by_cases h8 : pl = (↑s.length : Int)
          · obtain ⟨hp'9, sl'10, e11, h12, h13, h14, h15⟩ := (N.put_ok (m := m) hb hm hg h3 hf hf2 hne hl hvl hk hn hc)
            exact ⟨hp'9, _, loopStepS (St.mk (q0_at_l rb pl f k) hp'9) [.m 2 5 zz0, .m 2 6 (len_sl (C := cfg m) (t := 67) (ts' := []) (fl := fl) (ar := false) (sz := 1) (x := sl) (vs := List.map natAV l) (hp := hp) (Gr.isSl hg) (by kernel_rfl)), .b 2 7 (decide_eq_true ((show (↑k : Int) < (↑(List.map natAV l).length : Int) from (by omega)))), .m 4 3 zz2, .m 4 7 zz1, .m 4 12 zz0, .a 4 14 (indexAddr_sl (C := cfg m) (t := 67) (sz := 1) (x := sl) (n := (↑k : Int)) (Gr.isSl hg) (by kernel_rfl) (by omega) hv), .a 4 16 (indexAddr_arr' (C := cfg m) (t := 50) (sz := 6) (b := sb) (off := 0) (len := n) (o := q * 6) (n := (↑q : Int)) (by kernel_rfl) (by omega) (by omega) (by simp only [Int.toNat_natCast, Nat.zero_add, Nat.mul_one])), .m 4 17 e2, .b 5 2 (beq_false_of_ne h4), .b 7 2 (beq_false_of_ne h5), .b 8 2 (beq_false_of_ne h6), .b 9 2 (beq_iff_eq.2 h7), .m 9 8 (load_ok (C := cfg m) (t := 9) (off := 3) (x := AV.str s) hb (by kernel_rfl)), .b 9 10 (beq_iff_eq.2 h8), .c 10 5 e11, .w 3 1 IntKind.i64 ((↑k : Int) + 1) (wrap_i64' (by omega))] (by kernel_rfl) (by simp [atStep, *]), by assumption, by simp [atStep, *], by simp [atStep, *], by first | assumption | exact .refl _ _⟩
          · exact ⟨hp, _, loopStepS (St.mk (q0_at_l rb pl f k) hp) [.m 2 5 zz0, .m 2 6 (len_sl (C := cfg m) (t := 67) (ts' := []) (fl := fl) (ar := false) (sz := 1) (x := sl) (vs := List.map natAV l) (hp := hp) (Gr.isSl hg) (by kernel_rfl)), .b 2 7 (decide_eq_true ((show (↑k : Int) < (↑(List.map natAV l).length : Int) from (by omega)))), .m 4 3 zz2, .m 4 7 zz1, .m 4 12 zz0, .a 4 14 (indexAddr_sl (C := cfg m) (t := 67) (sz := 1) (x := sl) (n := (↑k : Int)) (Gr.isSl hg) (by kernel_rfl) (by omega) hv), .a 4 16 (indexAddr_arr' (C := cfg m) (t := 50) (sz := 6) (b := sb) (off := 0) (len := n) (o := q * 6) (n := (↑q : Int)) (by kernel_rfl) (by omega) (by omega) (by simp only [Int.toNat_natCast, Nat.zero_add, Nat.mul_one])), .m 4 17 e2, .b 5 2 (beq_false_of_ne h4), .b 7 2 (beq_false_of_ne h5), .b 8 2 (beq_false_of_ne h6), .b 9 2 (beq_iff_eq.2 h7), .m 9 8 (load_ok (C := cfg m) (t := 9) (off := 3) (x := AV.str s) hb (by kernel_rfl)), .b 9 10 (beq_false_of_ne h8), .w 3 1 IntKind.i64 ((↑k : Int) + 1) (wrap_i64' (by omega))] (by kernel_rfl) (by simp [atStep, *]), by assumption, by simp [atStep, *], by simp [atStep, *], by first | assumption | exact .refl _ _⟩
        · exact ⟨hp, _, loopStepS (St.mk (q0_at_l rb pl f k) hp) [.m 2 5 zz0, .m 2 6 (len_sl (C := cfg m) (t := 67) (ts' := []) (fl := fl) (ar := false) (sz := 1) (x := sl) (vs := List.map natAV l) (hp := hp) (Gr.isSl hg) (by kernel_rfl)), .b 2 7 (decide_eq_true ((show (↑k : Int) < (↑(List.map natAV l).length : Int) from (by omega)))), .m 4 3 zz2, .m 4 7 zz1, .m 4 12 zz0, .a 4 14 (indexAddr_sl (C := cfg m) (t := 67) (sz := 1) (x := sl) (n := (↑k : Int)) (Gr.isSl hg) (by kernel_rfl) (by omega) hv), .a 4 16 (indexAddr_arr' (C := cfg m) (t := 50) (sz := 6) (b := sb) (off := 0) (len := n) (o := q * 6) (n := (↑q : Int)) (by kernel_rfl) (by omega) (by omega) (by simp only [Int.toNat_natCast, Nat.zero_add, Nat.mul_one])), .m 4 17 e2, .b 5 2 (beq_false_of_ne h4), .b 7 2 (beq_false_of_ne h5), .b 8 2 (beq_false_of_ne h6), .b 9 2 (beq_false_of_ne h7), .w 3 1 IntKind.i64 ((↑k : Int) + 1) (wrap_i64' (by omega))] (by kernel_rfl) (by simp [atStep, *]), by assumption, by simp [atStep, *], by simp [atStep, *], by first | assumption | exact .refl _ _⟩

theorem at_x {m : Int} {fl rb mb pb n k : Nat} {hp : List Blk} {sl : AV} {s : List UInt8} {pl : Int} {l : List Nat} {f : Bool} (hb : blkCells hp rb = some [.arr 1 mb 0 n, sl, .ptr pb 0, .str s]) (hg : Gr fl 1 hp sl (l.map natAV)) (hi : (l.map natAV).length ≤ k) : LoopI (cfg m) fl fAt (bodyAt (cfg m) fAt 2) 2 ⟨atSt rb pl f k, hp⟩ (.exit 0) ⟨atEnd f, hp⟩ := by
  exact loopEndC (.exit 0) (St.mk ([J, J, J, J, TV.v (AV.bool f)] ++ Jn 64) hp) [.m 2 5 (load_ok (C := cfg m) (t := 67) (off := 1) (x := sl) hb (by kernel_rfl)), .m 2 6 (len_sl (C := cfg m) (t := 67) (ts' := []) (fl := fl) (ar := false) (sz := 1) (x := sl) (vs := List.map natAV l) (hp := hp) (Gr.isSl hg) (by kernel_rfl)), .b 2 7 (decide_eq_false ((show ¬(↑k : Int) < (↑(List.map natAV l).length : Int) from (by omega))))] (by kernel_rfl) (fun h => by cases h) rfl

theorem putF_mem {n : Nat} : ∀ (ks : List Nat) (ms : List Bool) (l : List Nat), (∀ q ∈ l, q < n) → (∀ k ∈ ks, k < n) → ∀ q ∈ (putF ms l ks).2, q < n
  | [], _, _, h, _ => h
  | k :: ks, ms, l, h, hk => by
    unfold putF; split
    · exact putF_mem ks ms l h fun q hq => hk q (by simp [hq])
    · refine putF_mem ks _ _ (fun q hq => ?_) fun q hq => hk q (by simp [hq])
      simp at hq
      rcases hq with hq | rfl
      · exact h q hq
      · exact hk q (by simp)
theorem atStep_len (x : NS) (pl len : Int) (ms : List Bool) (l : List Nat) (f : Bool) : (atStep x pl len ms l f).1.length = ms.length := by
  unfold atStep
  repeat' split
  · rfl
  · exact putF_len _ _ _
  · rfl
theorem atStep_count (x : NS) (pl len : Int) (ms : List Bool) (l : List Nat) (f : Bool) : (atStep x pl len ms l f).2.1.length + (atStep x pl len ms l f).1.count false = l.length + ms.count false := by
  unfold atStep
  repeat' split
  · rfl
  · exact putF_count _ _ _
  · rfl
theorem atStep_mem {n : Nat} (x : NS) (pl len : Int) (ms : List Bool) (l : List Nat) (f : Bool) (h : ∀ q ∈ l, q < n) (hx : ∀ k ∈ x.next, k < n) : ∀ q ∈ (atStep x pl len ms l f).2.1, q < n := by
  unfold atStep
  repeat' split
  · exact h
  · exact putF_mem _ _ _ h hx
  · exact h

/-- a place's states, closed -/
def atF (st : List NS) (pl len : Int) : Nat → Nat → List Bool → List Nat → Bool → List Bool × List Nat × Bool
  | 0, _, ms, l, f => (ms, l, f)
  | fuel + 1, k, ms, l, f => match l[k]? with
    | none => (ms, l, f)
    | some q => match st[q]? with
      | none => (ms, l, f)
      | some x => atF st pl len fuel (k + 1) (atStep x pl len ms l f).1 (atStep x pl len ms l f).2.1 (atStep x pl len ms l f).2.2

/-- states that go on to states of their own -/
def WF (st : List NS) : Prop := st.length < 1000000 ∧ ∀ x ∈ st, x.next.length < 1000000 ∧ ∀ k ∈ x.next, k < st.length

theorem at_loop {m : Int} {fl rb mb pb sb : Nat} {s : List UInt8} {pl : Int} {rest : List AV} {st : List NS} (hw : WF st) (hf : fl ≤ rb) (hf2 : fl ≤ mb) (hne : rb ≠ mb) (hps : pb ≠ rb) (hpm : pb ≠ mb) (hsr : sb ≠ rb) (hsm : sb ≠ mb) :
    ∀ (fuel k : Nat) {hp : List Blk} {sl : AV} {ms : List Bool} {l : List Nat} {f : Bool}, st.length + 1 ≤ fuel + k → k ≤ st.length + 1 → blkCells hp rb = some [.arr 1 mb 0 st.length, sl, .ptr pb 0, .str s] → blkCells hp mb = some (ms.map .bool) → Gr fl 1 hp sl (l.map natAV) → blkCells hp pb = some (.arr 6 sb 0 st.length :: rest) → StOK hp sb st →
      ms.length = st.length → l.length + ms.count false = st.length → (∀ q ∈ l, q < st.length) →
      ∃ hp' sl', LoopI (cfg m) fl fAt (bodyAt (cfg m) fAt 2) 2 ⟨atSt rb pl f k, hp⟩ (.exit 0) ⟨atEnd (atF st pl s.length fuel k ms l f).2.2, hp'⟩ ∧ blkCells hp' rb = some [.arr 1 mb 0 st.length, sl', .ptr pb 0, .str s] ∧ blkCells hp' mb = some ((atF st pl s.length fuel k ms l f).1.map .bool) ∧ Gr fl 1 hp' sl' ((atF st pl s.length fuel k ms l f).2.1.map natAV) ∧ FrC [rb, mb] hp hp'
  | 0, k, hp, sl, ms, l, f, hk, _, hb, hm, hg, hpb, hst, hn, hc, hq => ⟨hp, sl, at_x hb hg (by simp; omega), hb, hm, hg, .refl _ _⟩
  | fuel + 1, k, hp, sl, ms, l, f, hk, hk2, hb, hm, hg, hpb, hst, hn, hc, hq => by
    unfold atF
    cases hlk : l[k]? with
    | none => exact ⟨hp, sl, at_x hb hg (by simp at hlk ⊢; omega), hb, hm, hg, .refl _ _⟩
    | some q =>
      obtain ⟨hkl, hke⟩ := List.getElem?_eq_some_iff.1 hlk
      have hqn : q < st.length := hq q (hke ▸ List.getElem_mem hkl)
      have hx : st[q]? = some st[q] := List.getElem?_eq_getElem hqn
      obtain ⟨w1, w2⟩ := hw.2 st[q] (List.getElem_mem hqn)
      have hw1 := hw.1
      simp only [hx]
      obtain ⟨hp1, sl1, s1, s2, s3, s4, s5⟩ := at_l (m := m) (pl := pl) (f := f) hb hm hg hpb hst hx hqn (k := k) (by simp [hlk]) (by simpa using hkl) hf hf2 hne hw.1 w1 w2 hn hc (by omega)
      have hpb1 : blkCells hp1 pb = some (.arr 6 sb 0 st.length :: rest) := s5.2 _ _ (by simp; exact ⟨hps, hpm⟩) hpb
      have hst1 : StOK hp1 sb st := hst.fr s5 (by simp; exact ⟨hsr, hsm⟩)
      obtain ⟨hp2, sl2, r1, r2, r3, r4, r5⟩ := at_loop (m := m) (pl := pl) hw hf hf2 hne hps hpm hsr hsm fuel (k + 1) (f := (atStep st[q] pl s.length ms l f).2.2) (by omega) (by omega) s2 s3 s4 hpb1 hst1 (by rw [atStep_len]; exact hn) (by rw [atStep_count]; exact hc) (atStep_mem _ _ _ _ _ _ hq w2)
      exact ⟨hp2, sl2, s1 _ _ r1, r2, r3, r4, s5.trans r5⟩

theorem at_lp {m : Int} {fl rb mb pb sb : Nat} {s : List UInt8} {pl : Int} {rest : List AV} {st : List NS} {hp : List Blk} {sl : AV} {ms : List Bool} {l : List Nat} (hb : blkCells hp rb = some [.arr 1 mb 0 st.length, sl, .ptr pb 0, .str s]) (hm : blkCells hp mb = some (ms.map .bool)) (hg : Gr fl 1 hp sl (l.map natAV)) (hpb : blkCells hp pb = some (.arr 6 sb 0 st.length :: rest)) (hst : StOK hp sb st) (hw : WF st) (hf : fl ≤ rb) (hf2 : fl ≤ mb) (hne : rb ≠ mb) (hps : pb ≠ rb) (hpm : pb ≠ mb) (hsr : sb ≠ rb) (hsm : sb ≠ mb)
      (hn : ms.length = st.length) (hc : l.length + ms.count false = st.length) (hq : ∀ q ∈ l, q < st.length) :
      ∃ hp' sl', LoopI (cfg m) fl fAt (bodyAt (cfg m) fAt 2) 2 ⟨atSt rb pl false 0, hp⟩ (.exit 0) ⟨atEnd (atF st pl s.length (st.length + 1) 0 ms l false).2.2, hp'⟩ ∧ blkCells hp' rb = some [.arr 1 mb 0 st.length, sl', .ptr pb 0, .str s] ∧ blkCells hp' mb = some ((atF st pl s.length (st.length + 1) 0 ms l false).1.map .bool) ∧ Gr fl 1 hp' sl' ((atF st pl s.length (st.length + 1) 0 ms l false).2.1.map natAV) ∧ FrC [rb, mb] hp hp' :=
  at_loop hw hf hf2 hne hps hpm hsr hsm (st.length + 1) 0 (by omega) (by omega) hb hm hg hpb hst hn hc hq

theorem at_ok {m : Int} {fl rb mb pb sb : Nat} {s : List UInt8} {pl : Int} {rest : List AV} {st : List NS} {hp : List Blk} {sl : AV} {ms : List Bool} {l : List Nat} (hb : blkCells hp rb = some [.arr 1 mb 0 st.length, sl, .ptr pb 0, .str s]) (hm : blkCells hp mb = some (ms.map .bool)) (hg : Gr fl 1 hp sl (l.map natAV)) (hpb : blkCells hp pb = some (.arr 6 sb 0 st.length :: rest)) (hst : StOK hp sb st) (hw : WF st) (hf : fl ≤ rb) (hf2 : fl ≤ mb) (hne : rb ≠ mb) (hps : pb ≠ rb) (hpm : pb ≠ mb) (hsr : sb ≠ rb) (hsm : sb ≠ mb) (hn : ms.length = st.length) (hc : l.length + ms.count false = st.length) (hq : ∀ q ∈ l, q < st.length) : ∃ hp' sl', evI (cfg m) fl fAt [.ptr rb 0, .int .i64 pl] hp = some (.bool (atF st pl s.length (st.length + 1) 0 ms l false).2.2, hp') ∧ blkCells hp' rb = some [.arr 1 mb 0 st.length, sl', .ptr pb 0, .str s] ∧ blkCells hp' mb = some ((atF st pl s.length (st.length + 1) 0 ms l false).1.map .bool) ∧ Gr fl 1 hp' sl' ((atF st pl s.length (st.length + 1) 0 ms l false).2.1.map natAV) ∧ FrC [rb, mb] hp hp' := by
  obtain ⟨hp'1, sl'2, e3, h4, h5, h6, h7⟩ := (at_lp (m := m) (pl := pl) hb hm hg hpb hst hw hf hf2 hne hps hpm hsr hsm hn hc hq)
  rcases bcases ((atF st pl (↑s.length : Int) (st.length + 1) 0 ms l false).snd.snd) with h8 | h8
  · exact ⟨hp'1, _, evX (AV.bool true) (hp'1) [.l 2 e3, .b 11 0 h8] (by kernel_rfl) (tlK (by kernel_rfl) rfl) (by simp [*]), by assumption, by assumption, by assumption, by assumption⟩
  · exact ⟨hp'1, _, evX (AV.bool false) (hp'1) [.l 2 e3, .b 11 0 h8] (by kernel_rfl) (tlK (by kernel_rfl) rfl) (by simp [*]), by assumption, by assumption, by assumption, by assumption⟩
abbrev stSt (rb:Nat) (c:UInt8) (x:AV) (n i:Nat):List TV:=[.v (.ptr rb 0), .v (AU c.toNat),J,J,J,J,J,J,J,J,J,J,J,J,J,J,J,J,J,J,J,J,J,J,J,J,J, .v x, .v (AI n), .v (AI i)]++List.replicate 30 J
abbrev stEnd:List TV:=List.replicate 60 J
def stepQ (x:NS) (c:UInt8) (ms:List Bool) (l:List Nat):List Bool × List Nat:=if x.kind=1∧x.set.has c.toNat=true then putF ms l x.next else (ms,l)
def stepF (st:List NS) (c:UInt8):List Nat→List Bool→List Nat→List Bool × List Nat
 | [],ms,l=>(ms,l)
 | q::qs,ms,l=>match st[q]? with
  | none=>(ms,l)
  | some x=>stepF st c qs (stepQ x c ms l).1 (stepQ x c ms l).2
theorem has_ok' {m:Int} {fl:Nat} {hp:List Blk} {w:W4} {x:UInt8}:evI (cfg m) fl fHas [.agg [wAV w.a,wAV w.b,wAV w.c,wAV w.d], .int .u8 x.toNat] hp=some (.bool (w.has x.toNat),hp):=has_ok
theorem st_l {m:Int} {fl rb mb pb sb n k q nv:Nat} {hp:List Blk} {sl slo:AV} {s:List UInt8} {c:UInt8} {ms:List Bool} {l:List Nat} {vs rest:List AV} {st:List NS} {x:NS} (hb:blkCells hp rb=some [.arr 1 mb 0 n,sl, .ptr pb 0, .str s]) (hm:blkCells hp mb=some (ms.map .bool)) (hg:Gr fl 1 hp sl (l.map natAV)) (hpb:blkCells hp pb=some (.arr 6 sb 0 n::rest)) (hst:StOK hp sb st) (hx:st[q]?=some x) (hq:q < n) (ho:IsSl 1 slo vs) (hv:vs[k]?=some (natAV q)) (hi:k < nv) (hnv:nv < 1000000) (hf:fl≤rb) (hf2:fl≤mb) (hne:rb≠mb) (hl:n < 1000000) (hvl:x.next.length < 1000000) (hk:∀ k ∈ x.next,k < n) (hn:ms.length=n) (hc:l.length + ms.count false=n):∃ hp' sl',LoopS (cfg m) fl fStep (bodyAt (cfg m) fStep 3) 3 ⟨stSt rb c slo nv k,hp⟩ ⟨stSt rb c slo nv (k + 1),hp'⟩∧blkCells hp' rb=some [.arr 1 mb 0 n,sl', .ptr pb 0, .str s]∧blkCells hp' mb=some ((stepQ x c ms l).1.map .bool)∧Gr fl 1 hp' sl' ((stepQ x c ms l).2.map natAV)∧FrC [rb,mb] hp hp':=by
 have zz1:=load_ok (C:=cfg m) (t:=25) (off:=2) (x:=AV.ptr pb 0) hb (by kernel_rfl)
 have zz0:=load_ok (C:=cfg m) (t:=50) (off:=0) (x:=AV.arr 6 sb 0 n) hpb (by kernel_rfl)
 obtain ⟨nx1,e2,h3⟩:=(load_state (m:=m) hst hx)
 by_cases h4:x.kind=1
 ·rcases bcases (x.set.has c.toNat) with h5 | h5
  ·obtain ⟨hp'6,sl'7,e8,h9,h10,h11,h12⟩:=(N.put_ok (m:=m) hb hm hg h3 hf hf2 hne hl hvl hk hn hc)
   exact ⟨hp'6,_,loopStepS (St.mk [TV.v (AV.ptr rb 0),TV.v (AU (↑c.toNat:Int)),J,J,J,J,J,J,J,J,J,J,J,J,J,J,J,J,J,J,J,J,J,J,J,J,J,TV.v slo,TV.v (AI nv),TV.v (AI ((↑k:Int) + 1)),J,J,J,J,J,J,J,J,J,J,J,J,J,J,J,J,J,J,J,J,J,J,J,J,J,J,J,J,J,J] hp'6) [.b 3 0 (decide_eq_true ((show (↑k:Int) < (↑nv:Int) from (by omega)))), .a 4 0 (indexAddr_sl (C:=cfg m) (t:=67) (n:=(↑k:Int)) ho (by kernel_rfl) (by omega) hv), .m 5 3 zz1, .m 5 7 zz0, .a 5 9 (indexAddr_arr' (C:=cfg m) (t:=50) (sz:=6) (b:=sb) (off:=0) (len:=n) (o:=q * 6) (n:=(↑q:Int)) (by kernel_rfl) (by omega) (by omega) (by simp only [Int.toNat_natCast,Nat.zero_add,Nat.mul_one])), .m 5 10 e2, .b 6 2 (beq_iff_eq.2 h4), .cb 6 7 (has_ok' (m:=m) (fl:=fl) (hp:=hp) (w:=x.set) (x:=c)) h5, .c 7 5 e8, .w 8 0 IntKind.i64 ((↑k:Int) + 1) (wrap_i64' (by omega))] (by kernel_rfl) (by simp [stepQ, *]),by assumption,by simp [stepQ, *],by simp [stepQ, *],by first | assumption | exact .refl _ _⟩
  ·exact ⟨hp,_,loopStepS (St.mk [TV.v (AV.ptr rb 0),TV.v (AU (↑c.toNat:Int)),J,J,J,J,J,J,J,J,J,J,J,J,J,J,J,J,J,J,J,J,J,J,J,J,J,TV.v slo,TV.v (AI nv),TV.v (AI ((↑k:Int) + 1)),J,J,J,J,J,J,J,J,J,J,J,J,J,J,J,J,J,J,J,J,J,J,J,J,J,J,J,J,J,J] hp) [.b 3 0 (decide_eq_true ((show (↑k:Int) < (↑nv:Int) from (by omega)))), .a 4 0 (indexAddr_sl (C:=cfg m) (t:=67) (n:=(↑k:Int)) ho (by kernel_rfl) (by omega) hv), .m 5 3 zz1, .m 5 7 zz0, .a 5 9 (indexAddr_arr' (C:=cfg m) (t:=50) (sz:=6) (b:=sb) (off:=0) (len:=n) (o:=q * 6) (n:=(↑q:Int)) (by kernel_rfl) (by omega) (by omega) (by simp only [Int.toNat_natCast,Nat.zero_add,Nat.mul_one])), .m 5 10 e2, .b 6 2 (beq_iff_eq.2 h4), .cb 6 7 (has_ok' (m:=m) (fl:=fl) (hp:=hp) (w:=x.set) (x:=c)) h5, .w 8 0 IntKind.i64 ((↑k:Int) + 1) (wrap_i64' (by omega))] (by kernel_rfl) (by simp [stepQ, *]),by assumption,by simp [stepQ, *],by simp [stepQ, *],by first | assumption | exact .refl _ _⟩
 ·exact ⟨hp,_,loopStepS (St.mk [TV.v (AV.ptr rb 0),TV.v (AU (↑c.toNat:Int)),J,J,J,J,J,J,J,J,J,J,J,J,J,J,J,J,J,J,J,J,J,J,J,J,J,TV.v slo,TV.v (AI nv),TV.v (AI ((↑k:Int) + 1)),J,J,J,J,J,J,J,J,J,J,J,J,J,J,J,J,J,J,J,J,J,J,J,J,J,J,J,J,J,J] hp) [.b 3 0 (decide_eq_true ((show (↑k:Int) < (↑nv:Int) from (by omega)))), .a 4 0 (indexAddr_sl (C:=cfg m) (t:=67) (n:=(↑k:Int)) ho (by kernel_rfl) (by omega) hv), .m 5 3 zz1, .m 5 7 zz0, .a 5 9 (indexAddr_arr' (C:=cfg m) (t:=50) (sz:=6) (b:=sb) (off:=0) (len:=n) (o:=q * 6) (n:=(↑q:Int)) (by kernel_rfl) (by omega) (by omega) (by simp only [Int.toNat_natCast,Nat.zero_add,Nat.mul_one])), .m 5 10 e2, .b 6 2 (beq_false_of_ne h4), .w 8 0 IntKind.i64 ((↑k:Int) + 1) (wrap_i64' (by omega))] (by kernel_rfl) (by simp [stepQ, *]),by assumption,by simp [stepQ, *],by simp [stepQ, *],by first | assumption | exact .refl _ _⟩
theorem st_x {m:Int} {fl rb n k:Nat} {hp:List Blk} {x:AV} {c:UInt8} (hi:n≤k):LoopI (cfg m) fl fStep (bodyAt (cfg m) fStep 3) 3 ⟨stSt rb c x n k,hp⟩ (.exit 0) ⟨stEnd,hp⟩:=by
 exact loopEndC (.exit 0) (St.mk ([J]++Jn 59) hp) [.b 3 0 (decide_eq_false ((show ¬(↑k:Int) < (↑n:Int) from (by omega))))] (by kernel_rfl) (fun h=>by cases h) rfl
theorem stepQ_len (x:NS) (c:UInt8) (ms:List Bool) (l:List Nat):(stepQ x c ms l).1.length=ms.length:=by
 unfold stepQ
 split
 ·exact putF_len _ _ _
 ·rfl
theorem stepQ_count (x:NS) (c:UInt8) (ms:List Bool) (l:List Nat):(stepQ x c ms l).2.length + (stepQ x c ms l).1.count false=l.length + ms.count false:=by
 unfold stepQ
 split
 ·exact putF_count _ _ _
 ·rfl
theorem stepQ_mem {n:Nat} (x:NS) (c:UInt8) (ms:List Bool) (l:List Nat) (h:∀ q ∈ l,q < n) (hx:∀ k ∈ x.next,k < n):∀ q ∈ (stepQ x c ms l).2,q < n:=by
 unfold stepQ
 split
 ·exact putF_mem _ _ _ h hx
 ·exact h
theorem st_loop {m:Int} {fl rb mb pb sb nv:Nat} {s:List UInt8} {c:UInt8} {rest vs:List AV} {slo:AV} {st:List NS} (hw:WF st) (ho:IsSl 1 slo vs) (hnv:nv=vs.length) (hnv2:nv < 1000000) (hf:fl≤rb) (hf2:fl≤mb) (hne:rb≠mb) (hps:pb≠rb) (hpm:pb≠mb) (hsr:sb≠rb) (hsm:sb≠mb) :
  ∀ (qs:List Nat) (k:Nat) {hp:List Blk} {sl:AV} {ms:List Bool} {l:List Nat},vs.drop k=qs.map natAV→(∀ q ∈ qs,q < st.length)→blkCells hp rb=some [.arr 1 mb 0 st.length,sl, .ptr pb 0, .str s]→blkCells hp mb=some (ms.map .bool)→Gr fl 1 hp sl (l.map natAV)→blkCells hp pb=some (.arr 6 sb 0 st.length::rest)→StOK hp sb st →
   ms.length=st.length→l.length + ms.count false=st.length →
   ∃ hp' sl',LoopI (cfg m) fl fStep (bodyAt (cfg m) fStep 3) 3 ⟨stSt rb c slo nv k,hp⟩ (.exit 0) ⟨stEnd,hp'⟩∧blkCells hp' rb=some [.arr 1 mb 0 st.length,sl', .ptr pb 0, .str s]∧blkCells hp' mb=some ((stepF st c qs ms l).1.map .bool)∧Gr fl 1 hp' sl' ((stepF st c qs ms l).2.map natAV)∧FrC [rb,mb] hp hp'
 | [],k,hp,sl,ms,l,hd,_,hb,hm,hg,hpb,hst,hn,hc=>by
  have:vs.length≤k:=by simpa using hd
  exact ⟨hp,sl,st_x (by omega),hb,hm,hg, .refl _ _⟩
 | q::qs,k,hp,sl,ms,l,hd,hq,hb,hm,hg,hpb,hst,hn,hc=>by
  have h1:vs[k]?=some (natAV q):=by
   have:=congrArg (·[0]?) hd
   simpa using this
  have hi:k < vs.length:=(List.getElem?_eq_some_iff.1 h1).1
  have hd':vs.drop (k + 1)=qs.map natAV:=by
   rw [← List.drop_drop,hd];rfl
  have hqn:q < st.length:=hq q (by simp)
  have hx:st[q]?=some st[q]:=List.getElem?_eq_getElem hqn
  obtain ⟨w1,w2⟩:=hw.2 st[q] (List.getElem_mem hqn)
  simp only [stepF,hx]
  obtain ⟨hp1,sl1,s1,s2,s3,s4,s5⟩:=st_l (m:=m) (c:=c) (nv:=nv) hb hm hg hpb hst hx hqn ho h1 (by omega) hnv2 hf hf2 hne hw.1 w1 w2 hn hc
  have hpb1:blkCells hp1 pb=some (.arr 6 sb 0 st.length::rest):=s5.2 _ _ (by simp;exact ⟨hps,hpm⟩) hpb
  have hst1:StOK hp1 sb st:=hst.fr s5 (by simp;exact ⟨hsr,hsm⟩)
  obtain ⟨hp2,sl2,r1,r2,r3,r4,r5⟩:=st_loop (m:=m) (c:=c) hw ho hnv hnv2 hf hf2 hne hps hpm hsr hsm qs (k + 1) hd' (fun x hx=>hq x (by simp [hx])) s2 s3 s4 hpb1 hst1 (by rw [stepQ_len];exact hn) (by rw [stepQ_count];exact hc)
  exact ⟨hp2,sl2,s1 _ _ r1,r2,r3,r4,s5.trans r5⟩
theorem st_lp {m:Int} {fl rb mb pb sb nv:Nat} {s:List UInt8} {c:UInt8} {rest:List AV} {slo sl:AV} {st:List NS} {qs:List Nat} {hp:List Blk} {ms:List Bool} {l:List Nat} (hb:blkCells hp rb=some [.arr 1 mb 0 st.length,sl, .ptr pb 0, .str s]) (hm:blkCells hp mb=some (ms.map .bool)) (hg:Gr fl 1 hp sl (l.map natAV)) (hpb:blkCells hp pb=some (.arr 6 sb 0 st.length::rest)) (hst:StOK hp sb st) (hw:WF st) (ho:IsSl 1 slo (qs.map natAV)) (hnv:nv=(qs.map natAV).length) (hq:∀ q ∈ qs,q < st.length) (hql:qs.length≤st.length)
  (hf:fl≤rb) (hf2:fl≤mb) (hne:rb≠mb) (hps:pb≠rb) (hpm:pb≠mb) (hsr:sb≠rb) (hsm:sb≠mb) (hn:ms.length=st.length) (hc:l.length + ms.count false=st.length) :
   ∃ hp' sl',LoopI (cfg m) fl fStep (bodyAt (cfg m) fStep 3) 3 ⟨stSt rb c slo nv 0,hp⟩ (.exit 0) ⟨stEnd,hp'⟩∧blkCells hp' rb=some [.arr 1 mb 0 st.length,sl', .ptr pb 0, .str s]∧blkCells hp' mb=some ((stepF st c qs ms l).1.map .bool)∧Gr fl 1 hp' sl' ((stepF st c qs ms l).2.map natAV)∧FrC [rb,mb] hp hp' :=
 st_loop hw ho (by simpa using hnv) (by simp at hnv;have:=hw.1;omega) hf hf2 hne hps hpm hsr hsm qs 0 rfl hq hb hm hg hpb hst hn hc
theorem gr_nil {fl:Nat} {hp:List Blk}:Gr fl 1 hp .nilS (([]:List Nat).map natAV) := .nil _ _ _
theorem StOK.set {hp:List Blk} {sb b:Nat} {x:Blk} {st:List NS} (h:StOK hp sb st) (hn:b≠sb):StOK (setAt hp b x) sb st:=by
 obtain ⟨cs,h1,h2⟩:=h
 exact ⟨cs,blk_set_ne hn h1,h2⟩
theorem StOK.app {hp r:List Blk} {sb:Nat} {st:List NS} (h:StOK hp sb st):StOK (hp++r) sb st:=by
 obtain ⟨cs,h1,h2⟩:=h
 exact ⟨cs,blk_app h1,h2⟩
theorem count0 {n:Nat}:([]:List Nat).length + (List.replicate n false).count false=n:=by simp
theorem FrC.step {rb:Nat} {hp hp':List Blk} {x y:Blk} (h:FrC [rb,hp.length] (setAt hp rb x++[y]) hp'):FrC [rb] hp hp':=by
 refine ⟨Nat.le_trans (by simp [setAt_length]) h.1,fun b cs hb hc => ?_⟩
 have hlt:=blk_lt hc
 exact h.2 b cs (by simp at hb ⊢;omega) (blk_app (blk_set_ne (by simp at hb;omega) hc))
abbrev q0_step_ok (hp:List Blk) (st:List NS) (pb:Nat) (s:List UInt8):List AV:=[AV.arr 1 hp.length 0 st.length,AV.nilS,AV.ptr pb 0,AV.str s]
abbrev q1_step_ok (st:List NS):List Blk:=[BC (List.map AV.bool (List.replicate st.length false))]
theorem step_ok {m:Int} {fl rb mb pb sb:Nat} {s:List UInt8} {c:UInt8} {rest:List AV} {sl:AV} {st:List NS} {hp:List Blk} {l:List Nat} (hb:blkCells hp rb=some [.arr 1 mb 0 st.length,sl, .ptr pb 0, .str s]) (hg:Gr fl 1 hp sl (l.map natAV)) (hpb:blkCells hp pb=some (.arr 6 sb 0 st.length::rest)) (hst:StOK hp sb st) (hw:WF st) (hw1:st.length≤1000000) (hq:∀ q ∈ l,q < st.length) (hql:l.length≤st.length) (hf:fl≤rb) (hf3:fl≤hp.length) (hps:pb≠rb) (hsr:sb≠rb) (hsl:sb < hp.length):∃ hp' sl',evI (cfg m) fl fStep [.ptr rb 0, .int .u8 c.toNat] hp=some (.tup [],hp')∧blkCells hp' rb=some [.arr 1 hp.length 0 st.length,sl', .ptr pb 0, .str s]∧blkCells hp' hp.length=some ((stepF st c l (List.replicate st.length false) []).1.map .bool)∧Gr fl 1 hp' sl' ((stepF st c l (List.replicate st.length false) []).2.map natAV)∧FrC [rb] hp hp':=by
 obtain ⟨hp'1,sl'2,e3,h4,h5,h6,h7⟩:=(st_lp (m:=m) (nv:=(List.map natAV l).length) (s:=s) (c:=c) (rest:=rest) (slo:=sl) (sl:=AV.nilS) (hp:=setAt hp rb (BC (q0_step_ok hp st pb s))++(q1_step_ok st)) (ms:=List.replicate st.length false) (l:=[]) (blk_app (blk_set (blk_lt hb))) (blk_last' (by simp only [setAt_length])) (gr_nil (fl:=fl) (hp:=setAt hp rb (BC (q0_step_ok hp st pb s))++(q1_step_ok st))) (blk_app (blk_set_ne (by omega) hpb)) (StOK.app (hp:=setAt hp rb (BC (q0_step_ok hp st pb s))) (r:=(q1_step_ok st)) (sb:=sb) (st:=st) (StOK.set (b:=rb) (x:=BC (q0_step_ok hp st pb s)) hst (by omega))) hw (Gr.isSl hg) rfl hq hql hf hf3 (by have:=blk_lt hb;have:=blk_lt hpb;omega) hps (by have:=blk_lt hb;have:=blk_lt hpb;omega) hsr (by omega) (by simp_all;done) (count0 (n:=st.length)))
 exact ⟨hp'1,_,evX (AV.tup []) (hp'1) [.m 0 4 (load_ok (C:=cfg m) (t:=67) (off:=1) (x:=sl) hb (by kernel_rfl)), .m 1 4 (load_ok (C:=cfg m) (t:=25) (off:=2) (x:=AV.ptr pb 0) hb (by kernel_rfl)), .m 1 8 (load_ok (C:=cfg m) (t:=50) (off:=0) (x:=AV.arr 6 sb 0 st.length) hpb (by kernel_rfl)), .m 1 10 (mkSl_bools (C:=cfg m) (t:=66) (hp:=hp) (k:=IntKind.i64) (k':=IntKind.i64) (by kernel_rfl) hw1), .t 1 14 (store_ok (C:=cfg m) (t:=69) (off:=0) (hp:=hp++(q1_step_ok st)) (hp':=setAt hp rb (BC (q0_step_ok hp st pb s))++(q1_step_ok st)) (cs:=[AV.arr 1 mb 0 st.length,sl,AV.ptr pb 0,AV.str s]) (cs':=(q0_step_ok hp st pb s)) (x:=AV.agg [AV.arr 1 hp.length 0 st.length,AV.nilS]) (blk_app hb) (by kernel_rfl) hf (setAt_app (blk_lt hb))), .m 2 1 (len_sl (C:=cfg m) (t:=67) (ts':=[]) (fl:=fl) (ar:=false) (sz:=1) (x:=sl) (vs:=List.map natAV l) (hp:=setAt hp rb (BC (q0_step_ok hp st pb s))++(q1_step_ok st)) (Gr.isSl hg) (by kernel_rfl)), .l 3 e3] (by kernel_rfl) (tlK (by kernel_rfl) rfl) rfl,by assumption,by assumption,by assumption,by exact FrC.step ‹FrC [_,_] _ _›⟩
abbrev mSt (pb rb:Nat) (s:List UInt8) (w:Bool) (pl:Nat):List TV:=[.v (.ptr pb 0), .v (.str s), .v (.bool w),J,J,J,J, .v (.ptr rb 0), .v (AI pl)]++List.replicate 53 J
abbrev mEnd (r:Bool):List TV:=[J,J,J,J,J,J, .v (.bool r)]++List.replicate 55 J
abbrev progB (sb n:Nat) (x1 x2 x3 x4 x5 x6 x7 x8:AV) (first:Nat):List AV:=[.arr 6 sb 0 n,x1,x2,x3,x4,x5,x6,x7,x8,AI first]
def mPut (first:Nat) (w:Bool) (pl:Nat) (ms:List Bool) (l:List Nat):List Bool × List Nat:=if pl=0∨w=false then putF ms l [first] else (ms,l)
mutual
def mF (st:List NS) (first:Nat) (w:Bool) (len:Nat) (cs:List UInt8) (pl:Nat) (ms:List Bool) (l:List Nat):Bool:=mG st first w len (mPut first w pl ms l) cs pl
termination_by (cs.length,1)
def mG (st:List NS) (first:Nat) (w:Bool) (len:Nat) (r:List Bool × List Nat) (cs:List UInt8) (pl:Nat):Bool :=
  let a:=atF st pl len (st.length + 1) 0 r.1 r.2 false
  if a.2.2=true∧(w=false∨pl=len) then true
  else match cs with
   | []=>false
   | c::cs=>mF st first w len cs (pl + 1) (stepF st c a.2.1 (List.replicate st.length false) []).1 (stepF st c a.2.1 (List.replicate st.length false) []).2
termination_by (cs.length,0)
end
theorem hd_mem {n first:Nat} (h:first < n):∀ k ∈ [first],k < n:=by simp;exact h
theorem isSl_first {first:Nat}:IsSl 1 (.lit 1 .exact [AI first]) (([first]:List Nat).map natAV) := .lit _ _ _
theorem one_lt {first:Nat}:([first]:List Nat).length < 1000000:=by simp
theorem putF_len' {n:Nat} {ks:List Nat} {ms:List Bool} {l:List Nat} (h:ms.length=n):(putF ms l ks).1.length=n:=by rw [putF_len];exact h
theorem putF_count' {n:Nat} {ks:List Nat} {ms:List Bool} {l:List Nat} (h:l.length + ms.count false=n):(putF ms l ks).2.length + (putF ms l ks).1.count false=n:=by rw [putF_count];exact h
theorem putF_mem1 {n first:Nat} {ms:List Bool} {l:List Nat} (h:∀ q ∈ l,q < n) (hf:first < n):∀ q ∈ (putF ms l [first]).2,q < n:=putF_mem _ _ _ h (hd_mem hf)
abbrev q0_m_e1:List TV:=[J,J,J,J,J,J,TV.v (AV.bool true),J,J,J,J,J,J,J,J,J,J,J,J,J,J,J,J,J,J,J,J,J,J,J,J,J,J,J,J,J,J,J,J,J,J,J,J,J,J,J,J,J,J,J,J,J,J,J,J,J,J,J,J,J,J,J]
theorem m_e1 {m:Int} {fl pb rb mb sb first pl:Nat} {hp:List Blk} {s:List UInt8} {w:Bool} {st:List NS} {x1 x2 x3 x4 x5 x6 x7 x8 sl:AV} {ms:List Bool} {l:List Nat} (hb:blkCells hp rb=some [.arr 1 mb 0 st.length,sl, .ptr pb 0, .str s]) (hm:blkCells hp mb=some (ms.map .bool)) (hg:Gr fl 1 hp sl (l.map natAV)) (hpb:blkCells hp pb=some (progB sb st.length x1 x2 x3 x4 x5 x6 x7 x8 first)) (hst:StOK hp sb st) (hw:WF st) (hw1:st.length < 1000000) (hfi:first < st.length) (hp0:(pl:Int)=0) (hf:fl≤rb) (hf2:fl≤mb) (hne:rb≠mb) (hps:pb≠rb) (hpm:pb≠mb) (hsr:sb≠rb) (hsm:sb≠mb) (hn:ms.length=st.length) (hc:l.length + ms.count false=st.length) (hq:∀ q ∈ l,q < st.length) (hpl:pl=s.length) (hpt:(pl=s.length)=True) (hsl:sb < hp.length):∃ hp',LoopI (cfg m) fl fMatches (bodyAt (cfg m) fMatches 4) 4 ⟨mSt pb rb s w pl,hp⟩ .ret ⟨mEnd (mG st first w s.length (putF ms l [first]) [] pl),hp'⟩∧True:=by
 have zz0:=load_ok (C:=cfg m) (t:=3) (off:=9) (x:=AI first) hpb (by kernel_rfl)
 obtain ⟨hp'1,sl'2,e3,h4,h5,h6,h7⟩:=(N.put_ok (m:=m) (x:=AV.lit 1 Own.exact [AI first]) (ks:=[first]) hb hm hg (isSl_first (first:=first)) hf hf2 hne hw1 (one_lt (first:=first)) (hd_mem hfi) hn hc)
 obtain ⟨hp'8,sl'9,e10,h11,h12,h13,h14⟩:=(at_ok (m:=m) (pl:=(↑pl:Int)) (rest:=[x1,x2,x3,x4,x5,x6,x7,x8,AI first]) h4 h5 h6 (frC_blk h7 hpb (by simp_all;done)) (StOK.fr h7 hst (by simp_all;done)) hw hf hf2 hne hps hpm hsr hsm (putF_len' (ks:=[first]) (l:=l) hn) (putF_count' (ks:=[first]) hc) (putF_mem1 (ms:=ms) hq hfi))
 rcases bcases ((atF st (↑pl:Int) (↑s.length:Int) (st.length + 1) 0 (putF ms l [first]).fst (putF ms l [first]).snd false).snd.snd) with h15 | h15
 ·rcases bcases (w) with h16 | h16
  ·exact ⟨hp'8,loopEndC .ret (St.mk q0_m_e1 hp'8) [.b 4 1 (beq_iff_eq.2 (hp0)), .m 5 6 zz0, .c 5 8 e3, .cb 6 2 e10 h15, .b 7 2 h16, .b 7 8 (beq_iff_eq.2 ((show (↑pl:Int)=(↑s.length:Int) from (by omega))))] (by kernel_rfl) (fun h=>by cases h) (by rw [mG];simp [*, -hp0, -hpl]),trivial⟩
  ·exact ⟨hp'8,loopEndC .ret (St.mk q0_m_e1 hp'8) [.b 4 1 (beq_iff_eq.2 (hp0)), .m 5 6 zz0, .c 5 8 e3, .cb 6 2 e10 h15, .b 7 2 h16] (by kernel_rfl) (fun h=>by cases h) (by rw [mG];simp [*, -hp0, -hpl]),trivial⟩
 ·exact ⟨hp'8,loopEndC .ret (St.mk [J,J,J,J,J,J,TV.v (AV.bool false),J,J,J,J,J,J,J,J,J,J,J,J,J,J,J,J,J,J,J,J,J,J,J,J,J,J,J,J,J,J,J,J,J,J,J,J,J,J,J,J,J,J,J,J,J,J,J,J,J,J,J,J,J,J,J] hp'8) [.b 4 1 (beq_iff_eq.2 (hp0)), .m 5 6 zz0, .c 5 8 e3, .cb 6 2 e10 h15, .b 9 3 (beq_iff_eq.2 ((show (↑pl:Int)=(↑s.length:Int) from (by omega))))] (by kernel_rfl) (fun h=>by cases h) (by rw [mG];simp [*, -hp0, -hpl]),trivial⟩
theorem m_e2 {m:Int} {fl pb rb mb sb first pl:Nat} {hp:List Blk} {s:List UInt8} {w:Bool} {st:List NS} {x1 x2 x3 x4 x5 x6 x7 x8 sl:AV} {ms:List Bool} {l:List Nat} (hb:blkCells hp rb=some [.arr 1 mb 0 st.length,sl, .ptr pb 0, .str s]) (hm:blkCells hp mb=some (ms.map .bool)) (hg:Gr fl 1 hp sl (l.map natAV)) (hpb:blkCells hp pb=some (progB sb st.length x1 x2 x3 x4 x5 x6 x7 x8 first)) (hst:StOK hp sb st) (hw:WF st) (hw1:st.length < 1000000) (hfi:first < st.length) (hp0:¬ (pl:Int)=0) (hww:w=false) (hf:fl≤rb) (hf2:fl≤mb) (hne:rb≠mb) (hps:pb≠rb) (hpm:pb≠mb) (hsr:sb≠rb) (hsm:sb≠mb) (hn:ms.length=st.length) (hc:l.length + ms.count false=st.length) (hq:∀ q ∈ l,q < st.length) (hpl:pl=s.length) (hpt:(pl=s.length)=True) (hsl:sb < hp.length):∃ hp',LoopI (cfg m) fl fMatches (bodyAt (cfg m) fMatches 4) 4 ⟨mSt pb rb s w pl,hp⟩ .ret ⟨mEnd (mG st first w s.length (putF ms l [first]) [] pl),hp'⟩∧True:=by
 obtain ⟨hp'1,sl'2,e3,h4,h5,h6,h7⟩:=(N.put_ok (m:=m) (x:=AV.lit 1 Own.exact [AI first]) (ks:=[first]) hb hm hg (isSl_first (first:=first)) hf hf2 hne hw1 (one_lt (first:=first)) (hd_mem hfi) hn hc)
 obtain ⟨hp'8,sl'9,e10,h11,h12,h13,h14⟩:=(at_ok (m:=m) (pl:=(↑pl:Int)) (rest:=[x1,x2,x3,x4,x5,x6,x7,x8,AI first]) h4 h5 h6 (frC_blk h7 hpb (by simp_all;done)) (StOK.fr h7 hst (by simp_all;done)) hw hf hf2 hne hps hpm hsr hsm (putF_len' (ks:=[first]) (l:=l) hn) (putF_count' (ks:=[first]) hc) (putF_mem1 (ms:=ms) hq hfi))
 rcases bcases ((atF st (↑pl:Int) (↑s.length:Int) (st.length + 1) 0 (putF ms l [first]).fst (putF ms l [first]).snd false).snd.snd) with h15 | h15
 ·exact ⟨hp'8,loopEndC .ret (St.mk [J,J,J,J,J,J,TV.v (AV.bool true),J,J,J,J,J,J,J,J,J,J,J,J,J,J,J,J,J,J,J,J,J,J,J,J,J,J,J,J,J,J,J,J,J,J,J,J,J,J,J,J,J,J,J,J,J,J,J,J,J,J,J,J,J,J,J] hp'8) [.b 4 1 (beq_false_of_ne (hp0)), .b 4 3 hww, .m 5 6 (load_ok (C:=cfg m) (t:=3) (off:=9) (x:=AI first) hpb (by kernel_rfl)), .c 5 8 e3, .cb 6 2 e10 h15, .b 7 2 hww] (by kernel_rfl) (fun h=>by cases h) (by rw [mG];simp [*, -hp0, -hpl]),trivial⟩
 ·exact ⟨hp'8,loopEndC .ret (St.mk [J,J,J,J,J,J,TV.v (AV.bool false),J,J,J,J,J,J,J,J,J,J,J,J,J,J,J,J,J,J,J,J,J,J,J,J,J,J,J,J,J,J,J,J,J,J,J,J,J,J,J,J,J,J,J,J,J,J,J,J,J,J,J,J,J,J,J] hp'8) [.b 4 1 (beq_false_of_ne (hp0)), .b 4 3 hww, .m 5 6 (load_ok (C:=cfg m) (t:=3) (off:=9) (x:=AI first) hpb (by kernel_rfl)), .c 5 8 e3, .cb 6 2 e10 h15, .b 9 3 (beq_iff_eq.2 ((show (↑pl:Int)=(↑s.length:Int) from (by omega))))] (by kernel_rfl) (fun h=>by cases h) (by rw [mG];simp [*, -hp0, -hpl]),trivial⟩
theorem m_e3 {m:Int} {fl pb rb mb sb first pl:Nat} {hp:List Blk} {s:List UInt8} {w:Bool} {st:List NS} {x1 x2 x3 x4 x5 x6 x7 x8 sl:AV} {ms:List Bool} {l:List Nat} (hb:blkCells hp rb=some [.arr 1 mb 0 st.length,sl, .ptr pb 0, .str s]) (hm:blkCells hp mb=some (ms.map .bool)) (hg:Gr fl 1 hp sl (l.map natAV)) (hpb:blkCells hp pb=some (progB sb st.length x1 x2 x3 x4 x5 x6 x7 x8 first)) (hst:StOK hp sb st) (hw:WF st) (hw1:st.length < 1000000) (hfi:first < st.length) (hp0:¬ (pl:Int)=0) (hww:w=true) (hf:fl≤rb) (hf2:fl≤mb) (hne:rb≠mb) (hps:pb≠rb) (hpm:pb≠mb) (hsr:sb≠rb) (hsm:sb≠mb) (hn:ms.length=st.length) (hc:l.length + ms.count false=st.length) (hq:∀ q ∈ l,q < st.length) (hpl:pl=s.length) (hpt:(pl=s.length)=True) (hsl:sb < hp.length):∃ hp',LoopI (cfg m) fl fMatches (bodyAt (cfg m) fMatches 4) 4 ⟨mSt pb rb s w pl,hp⟩ .ret ⟨mEnd (mG st first w s.length (ms,l) [] pl),hp'⟩∧True:=by
 obtain ⟨hp'1,sl'2,e3,h4,h5,h6,h7⟩:=(at_ok (m:=m) (pl:=(↑pl:Int)) hb hm hg hpb hst hw hf hf2 hne hps hpm hsr hsm hn hc hq)
 rcases bcases ((atF st (↑pl:Int) (↑s.length:Int) (st.length + 1) 0 ms l false).snd.snd) with h8 | h8
 ·exact ⟨hp'1,loopEndC .ret (St.mk [J,J,J,J,J,J,TV.v (AV.bool true),J,J,J,J,J,J,J,J,J,J,J,J,J,J,J,J,J,J,J,J,J,J,J,J,J,J,J,J,J,J,J,J,J,J,J,J,J,J,J,J,J,J,J,J,J,J,J,J,J,J,J,J,J,J,J] hp'1) [.b 4 1 (beq_false_of_ne (hp0)), .b 4 3 hww, .cb 6 2 e3 h8, .b 7 2 hww, .b 7 8 (beq_iff_eq.2 ((show (↑pl:Int)=(↑s.length:Int) from (by omega))))] (by kernel_rfl) (fun h=>by cases h) (by rw [mG];simp [*, -hp0, -hpl]),trivial⟩
 ·exact ⟨hp'1,loopEndC .ret (St.mk [J,J,J,J,J,J,TV.v (AV.bool false),J,J,J,J,J,J,J,J,J,J,J,J,J,J,J,J,J,J,J,J,J,J,J,J,J,J,J,J,J,J,J,J,J,J,J,J,J,J,J,J,J,J,J,J,J,J,J,J,J,J,J,J,J,J,J] hp'1) [.b 4 1 (beq_false_of_ne (hp0)), .b 4 3 hww, .cb 6 2 e3 h8, .b 9 3 (beq_iff_eq.2 ((show (↑pl:Int)=(↑s.length:Int) from (by omega))))] (by kernel_rfl) (fun h=>by cases h) (by rw [mG];simp [*, -hp0, -hpl]),trivial⟩
theorem stepF_len (st:List NS) (c:UInt8):∀ (qs:List Nat) (ms:List Bool) (l:List Nat),(stepF st c qs ms l).1.length=ms.length
 | [],_,_=>rfl
 | q::qs,ms,l=>by
  unfold stepF
  split
  ·rfl
  ·rw [stepF_len st c qs,stepQ_len]
theorem stepF_count (st:List NS) (c:UInt8):∀ (qs:List Nat) (ms:List Bool) (l:List Nat),(stepF st c qs ms l).2.length + (stepF st c qs ms l).1.count false=l.length + ms.count false
 | [],_,_=>rfl
 | q::qs,ms,l=>by
  unfold stepF
  split
  ·rfl
  ·rw [stepF_count st c qs,stepQ_count]
theorem stepF_mem {st:List NS} (hw:WF st) (c:UInt8):∀ (qs:List Nat) (ms:List Bool) (l:List Nat),(∀ q ∈ l,q < st.length)→∀ q ∈ (stepF st c qs ms l).2,q < st.length
 | [],_,_,h=>h
 | q::qs,ms,l,h=>by
  unfold stepF
  split
  ·exact h
  ·rename_i x hx
   exact stepF_mem hw c qs _ _ (stepQ_mem _ _ _ _ h (hw.2 x (List.mem_of_getElem? hx)).2)
theorem stepF_len' {st:List NS} {c:UInt8} {qs:List Nat}:(stepF st c qs (List.replicate st.length false) []).1.length=st.length:=by rw [stepF_len];simp
theorem stepF_count' {st:List NS} {c:UInt8} {qs:List Nat}:(stepF st c qs (List.replicate st.length false) []).2.length + (stepF st c qs (List.replicate st.length false) []).1.count false=st.length:=by rw [stepF_count];simp
theorem stepF_mem' {st:List NS} {c:UInt8} {qs:List Nat} (hw:WF st):∀ q ∈ (stepF st c qs (List.replicate st.length false) []).2,q < st.length:=stepF_mem hw c qs _ _ (by simp)
theorem atF_count (st:List NS) (pl len:Int):∀ (fuel k:Nat) (ms:List Bool) (l:List Nat) (f:Bool),(atF st pl len fuel k ms l f).2.1.length + (atF st pl len fuel k ms l f).1.count false=l.length + ms.count false
 | 0,_,_,_,_=>rfl
 | fuel + 1,k,ms,l,f=>by
  unfold atF
  split
  ·rfl
  ·split
   ·rfl
   ·rw [atF_count st pl len fuel,atStep_count]
theorem atF_mem {st:List NS} (hw:WF st) (pl len:Int):∀ (fuel k:Nat) (ms:List Bool) (l:List Nat) (f:Bool),(∀ q ∈ l,q < st.length)→∀ q ∈ (atF st pl len fuel k ms l f).2.1,q < st.length
 | 0,_,_,_,_,h=>h
 | fuel + 1,k,ms,l,f,h=>by
  unfold atF
  split
  ·exact h
  ·split
   ·exact h
   ·rename_i x hx
    exact atF_mem hw pl len fuel _ _ _ _ (atStep_mem _ _ _ _ _ _ h (hw.2 x (List.mem_of_getElem? hx)).2)
theorem atF_mem' {st:List NS} {pl len:Int} {fuel k:Nat} {ms:List Bool} {l:List Nat} {f:Bool} (hw:WF st) (h:∀ q ∈ l,q < st.length):∀ q ∈ (atF st pl len fuel k ms l f).2.1,q < st.length:=atF_mem hw pl len fuel k ms l f h
theorem atF_le {st:List NS} {pl len:Int} {fuel k n:Nat} {ms:List Bool} {l:List Nat} {f:Bool} (h:l.length + ms.count false=n):(atF st pl len fuel k ms l f).2.1.length≤n:=by
 have:=atF_count st pl len fuel k ms l f
 omega
abbrev q0_m_c1 (pb:Nat) (s:List UInt8) (w:Bool) (rb:Nat) (pl:Int):List TV:=[TV.v (AV.ptr pb 0),TV.v (AV.str s),TV.v (AV.bool w),J,J,J,J,TV.v (AV.ptr rb 0),TV.v (AI ((↑pl:Int) + 1)),J,J,J,J,J,J,J,J,J,J,J,J,J,J,J,J,J,J,J,J,J,J,J,J,J,J,J,J,J,J,J,J,J,J,J,J,J,J,J,J,J,J,J,J,J,J,J,J,J,J,J,J,J]
theorem m_c1 {m:Int} {fl pb rb mb sb first pl:Nat} {hp:List Blk} {s cs:List UInt8} {w:Bool} {st:List NS} {x1 x2 x3 x4 x5 x6 x7 x8 sl:AV} {ms:List Bool} {l:List Nat} (hb:blkCells hp rb=some [.arr 1 mb 0 st.length,sl, .ptr pb 0, .str s]) (hm:blkCells hp mb=some (ms.map .bool)) (hg:Gr fl 1 hp sl (l.map natAV)) (hpb:blkCells hp pb=some (progB sb st.length x1 x2 x3 x4 x5 x6 x7 x8 first)) (hst:StOK hp sb st) (hw:WF st) (hw1:st.length < 1000000) (hfi:first < st.length) (hp0:(pl:Int)=0) (hf:fl≤rb) (hf2:fl≤mb) (hf3:fl≤hp.length) (hne:rb≠mb) (hps:pb≠rb) (hpm:pb≠mb) (hsr:sb≠rb) (hsm:sb≠mb) (hn:ms.length=st.length) (hc:l.length + ms.count false=st.length) (hq:∀ q ∈ l,q < st.length) (hpl:pl < s.length) (hpn:¬ pl=s.length) (hsz:s.length < 4611686018427387904) (hsl:sb < hp.length) (ih:∀ {hp1:List Blk} {sl1:AV} {mb1:Nat} {ms1:List Bool} {l1:List Nat},blkCells hp1 rb=some [.arr 1 mb1 0 st.length,sl1, .ptr pb 0, .str s]→blkCells hp1 mb1=some (ms1.map .bool)→Gr fl 1 hp1 sl1 (l1.map natAV)→blkCells hp1 pb=some (progB sb st.length x1 x2 x3 x4 x5 x6 x7 x8 first)→StOK hp1 sb st→fl≤mb1→fl≤hp1.length→rb≠mb1→pb≠mb1→sb≠mb1→ms1.length=st.length→l1.length + ms1.count false=st.length→(∀ q ∈ l1,q < st.length)→sb < hp1.length→∃ hp',LoopI (cfg m) fl fMatches (bodyAt (cfg m) fMatches 4) 4 ⟨mSt pb rb s w (pl + 1),hp1⟩ .ret ⟨mEnd (mF st first w s.length cs (pl + 1) ms1 l1),hp'⟩∧True):∃ hp',LoopI (cfg m) fl fMatches (bodyAt (cfg m) fMatches 4) 4 ⟨mSt pb rb s w pl,hp⟩ .ret ⟨mEnd (mG st first w s.length (putF ms l [first]) (gb s pl::cs) pl),hp'⟩∧True:=by
 have zz0:=load_ok (C:=cfg m) (t:=3) (off:=9) (x:=AI first) hpb (by kernel_rfl)
 obtain ⟨hp'1,sl'2,e3,h4,h5,h6,h7⟩:=(N.put_ok (m:=m) (x:=AV.lit 1 Own.exact [AI first]) (ks:=[first]) hb hm hg (isSl_first (first:=first)) hf hf2 hne hw1 (one_lt (first:=first)) (hd_mem hfi) hn hc)
 obtain ⟨hp'8,sl'9,e10,h11,h12,h13,h14⟩:=(at_ok (m:=m) (pl:=(↑pl:Int)) (rest:=[x1,x2,x3,x4,x5,x6,x7,x8,AI first]) h4 h5 h6 (frC_blk h7 hpb (by simp_all;done)) (StOK.fr h7 hst (by simp_all;done)) hw hf hf2 hne hps hpm hsr hsm (putF_len' (ks:=[first]) (l:=l) hn) (putF_count' (ks:=[first]) hc) (putF_mem1 (ms:=ms) hq hfi))
 rcases bcases ((atF st (↑pl:Int) (↑s.length:Int) (st.length + 1) 0 (putF ms l [first]).fst (putF ms l [first]).snd false).snd.snd) with h15 | h15
 ·rcases bcases (w) with h16 | h16
  ·obtain ⟨hp'17,sl'18,e19,h20,h21,h22,h23⟩:=(step_ok (m:=m) (c:=gb s pl) (rest:=[x1,x2,x3,x4,x5,x6,x7,x8,AI first]) h11 h13 (frC_blk (b:=pb) (cs:=[AV.arr 6 sb 0 st.length,x1,x2,x3,x4,x5,x6,x7,x8,AI first]) h14 (frC_blk h7 hpb (by simp_all;done)) (by simp_all;done)) (StOK.fr (sb:=sb) (st:=st) h14 (StOK.fr h7 hst (by simp_all;done)) (by simp_all;done)) hw (by omega) (atF_mem' (pl:=(↑pl:Int)) (len:=(↑s.length:Int)) (fuel:=st.length + 1) (k:=0) (ms:=(putF ms l [first]).fst) (l:=(putF ms l [first]).snd) (f:=false) hw (putF_mem1 (ms:=ms) hq hfi)) (atF_le (st:=st) (pl:=(↑pl:Int)) (len:=(↑s.length:Int)) (fuel:=st.length + 1) (k:=0) (n:=st.length) (ms:=(putF ms l [first]).fst) (l:=(putF ms l [first]).snd) (f:=false) (putF_count' (ks:=[first]) hc)) hf (by have:=blk_lt hb;have:=blk_lt hm;have:=blk_lt hpb;have:=blk_lt h4;have:=blk_lt h5;have:=h7.1;have:=blk_lt h11;have:=blk_lt h12;have:=h14.1;omega) hps hsr (by have:=blk_lt hb;have:=blk_lt hm;have:=blk_lt hpb;have:=blk_lt h4;have:=blk_lt h5;have:=h7.1;have:=blk_lt h11;have:=blk_lt h12;have:=h14.1;omega))
   obtain ⟨hp'24,e25,h26⟩:=(ih h20 h21 h22 (frC_blk (b:=pb) (cs:=progB sb st.length x1 x2 x3 x4 x5 x6 x7 x8 first) h23 (frC_blk (b:=pb) (cs:=progB sb st.length x1 x2 x3 x4 x5 x6 x7 x8 first) h14 (frC_blk h7 hpb (by simp_all;done)) (by simp_all;done)) (by simp_all;done)) (StOK.fr (sb:=sb) (st:=st) h23 (StOK.fr (sb:=sb) (st:=st) h14 (StOK.fr h7 hst (by simp_all;done)) (by simp_all;done)) (by simp_all;done)) (by have:=UInt8.toNat_lt (gb s pl);have:=blk_lt hb;have:=blk_lt hm;have:=blk_lt hpb;have:=blk_lt h4;have:=blk_lt h5;have:=h7.1;have:=blk_lt h11;have:=blk_lt h12;have:=h14.1;have:=blk_lt h20;have:=blk_lt h21;have:=h23.1;omega) (by have:=UInt8.toNat_lt (gb s pl);have:=blk_lt hb;have:=blk_lt hm;have:=blk_lt hpb;have:=blk_lt h4;have:=blk_lt h5;have:=h7.1;have:=blk_lt h11;have:=blk_lt h12;have:=h14.1;have:=blk_lt h20;have:=blk_lt h21;have:=h23.1;omega) (by have:=UInt8.toNat_lt (gb s pl);have:=blk_lt hb;have:=blk_lt hm;have:=blk_lt hpb;have:=blk_lt h4;have:=blk_lt h5;have:=h7.1;have:=blk_lt h11;have:=blk_lt h12;have:=h14.1;have:=blk_lt h20;have:=blk_lt h21;have:=h23.1;omega) (by have:=UInt8.toNat_lt (gb s pl);have:=blk_lt hb;have:=blk_lt hm;have:=blk_lt hpb;have:=blk_lt h4;have:=blk_lt h5;have:=h7.1;have:=blk_lt h11;have:=blk_lt h12;have:=h14.1;have:=blk_lt h20;have:=blk_lt h21;have:=h23.1;omega) (by have:=UInt8.toNat_lt (gb s pl);have:=blk_lt hb;have:=blk_lt hm;have:=blk_lt hpb;have:=blk_lt h4;have:=blk_lt h5;have:=h7.1;have:=blk_lt h11;have:=blk_lt h12;have:=h14.1;have:=blk_lt h20;have:=blk_lt h21;have:=h23.1;omega) (stepF_len' (st:=st) (c:=gb s pl) (qs:=(atF st (↑pl:Int) (↑s.length:Int) (st.length + 1) 0 (putF ms l [first]).fst (putF ms l [first]).snd false).snd.fst)) (stepF_count' (st:=st) (c:=gb s pl) (qs:=(atF st (↑pl:Int) (↑s.length:Int) (st.length + 1) 0 (putF ms l [first]).fst (putF ms l [first]).snd false).snd.fst)) (stepF_mem' (c:=gb s pl) (qs:=(atF st (↑pl:Int) (↑s.length:Int) (st.length + 1) 0 (putF ms l [first]).fst (putF ms l [first]).snd false).snd.fst) hw) (by have:=UInt8.toNat_lt (gb s pl);have:=blk_lt hb;have:=blk_lt hm;have:=blk_lt hpb;have:=blk_lt h4;have:=blk_lt h5;have:=h7.1;have:=blk_lt h11;have:=blk_lt h12;have:=h14.1;have:=blk_lt h20;have:=blk_lt h21;have:=h23.1;omega))
   exact ⟨hp'24,loopStepC (St.mk (q0_m_c1 pb s w rb pl) hp'17) [.b 4 1 (beq_iff_eq.2 (hp0)), .m 5 6 zz0, .c 5 8 e3, .cb 6 2 e10 h15, .b 7 2 h16, .b 7 8 (beq_false_of_ne ((show ¬(↑pl:Int)=(↑s.length:Int) from (by omega)))), .b 9 3 (beq_false_of_ne ((show ¬(↑pl:Int)=(↑s.length:Int) from (by omega)))), .v 11 3 (index_gb (C:=cfg m) (t:=9) (s:=s) (n:=(↑pl:Int)) (by kernel_rfl) (by omega) (by omega)), .c 11 4 e19, .w 3 1 IntKind.i64 ((↑pl:Int) + 1) (wrap_i64' (by omega))] (by kernel_rfl) e25 (by rw [mG];simp [*, -hp0]),trivial⟩
  ·exact ⟨hp'8,loopEndC .ret (St.mk [J,J,J,J,J,J,TV.v (AV.bool true),J,J,J,J,J,J,J,J,J,J,J,J,J,J,J,J,J,J,J,J,J,J,J,J,J,J,J,J,J,J,J,J,J,J,J,J,J,J,J,J,J,J,J,J,J,J,J,J,J,J,J,J,J,J,J] hp'8) [.b 4 1 (beq_iff_eq.2 (hp0)), .m 5 6 zz0, .c 5 8 e3, .cb 6 2 e10 h15, .b 7 2 h16] (by kernel_rfl) (fun h=>by cases h) (by rw [mG];simp [*, -hp0]),trivial⟩
 ·obtain ⟨hp'16,sl'17,e18,h19,h20,h21,h22⟩:=(step_ok (m:=m) (c:=gb s pl) (rest:=[x1,x2,x3,x4,x5,x6,x7,x8,AI first]) h11 h13 (frC_blk (b:=pb) (cs:=[AV.arr 6 sb 0 st.length,x1,x2,x3,x4,x5,x6,x7,x8,AI first]) h14 (frC_blk h7 hpb (by simp_all;done)) (by simp_all;done)) (StOK.fr (sb:=sb) (st:=st) h14 (StOK.fr h7 hst (by simp_all;done)) (by simp_all;done)) hw (by omega) (atF_mem' (pl:=(↑pl:Int)) (len:=(↑s.length:Int)) (fuel:=st.length + 1) (k:=0) (ms:=(putF ms l [first]).fst) (l:=(putF ms l [first]).snd) (f:=false) hw (putF_mem1 (ms:=ms) hq hfi)) (atF_le (st:=st) (pl:=(↑pl:Int)) (len:=(↑s.length:Int)) (fuel:=st.length + 1) (k:=0) (n:=st.length) (ms:=(putF ms l [first]).fst) (l:=(putF ms l [first]).snd) (f:=false) (putF_count' (ks:=[first]) hc)) hf (by have:=blk_lt hb;have:=blk_lt hm;have:=blk_lt hpb;have:=blk_lt h4;have:=blk_lt h5;have:=h7.1;have:=blk_lt h11;have:=blk_lt h12;have:=h14.1;omega) hps hsr (by have:=blk_lt hb;have:=blk_lt hm;have:=blk_lt hpb;have:=blk_lt h4;have:=blk_lt h5;have:=h7.1;have:=blk_lt h11;have:=blk_lt h12;have:=h14.1;omega))
  obtain ⟨hp'23,e24,h25⟩:=(ih h19 h20 h21 (frC_blk (b:=pb) (cs:=progB sb st.length x1 x2 x3 x4 x5 x6 x7 x8 first) h22 (frC_blk (b:=pb) (cs:=progB sb st.length x1 x2 x3 x4 x5 x6 x7 x8 first) h14 (frC_blk h7 hpb (by simp_all;done)) (by simp_all;done)) (by simp_all;done)) (StOK.fr (sb:=sb) (st:=st) h22 (StOK.fr (sb:=sb) (st:=st) h14 (StOK.fr h7 hst (by simp_all;done)) (by simp_all;done)) (by simp_all;done)) (by have:=UInt8.toNat_lt (gb s pl);have:=blk_lt hb;have:=blk_lt hm;have:=blk_lt hpb;have:=blk_lt h4;have:=blk_lt h5;have:=h7.1;have:=blk_lt h11;have:=blk_lt h12;have:=h14.1;have:=blk_lt h19;have:=blk_lt h20;have:=h22.1;omega) (by have:=UInt8.toNat_lt (gb s pl);have:=blk_lt hb;have:=blk_lt hm;have:=blk_lt hpb;have:=blk_lt h4;have:=blk_lt h5;have:=h7.1;have:=blk_lt h11;have:=blk_lt h12;have:=h14.1;have:=blk_lt h19;have:=blk_lt h20;have:=h22.1;omega) (by have:=UInt8.toNat_lt (gb s pl);have:=blk_lt hb;have:=blk_lt hm;have:=blk_lt hpb;have:=blk_lt h4;have:=blk_lt h5;have:=h7.1;have:=blk_lt h11;have:=blk_lt h12;have:=h14.1;have:=blk_lt h19;have:=blk_lt h20;have:=h22.1;omega) (by have:=UInt8.toNat_lt (gb s pl);have:=blk_lt hb;have:=blk_lt hm;have:=blk_lt hpb;have:=blk_lt h4;have:=blk_lt h5;have:=h7.1;have:=blk_lt h11;have:=blk_lt h12;have:=h14.1;have:=blk_lt h19;have:=blk_lt h20;have:=h22.1;omega) (by have:=UInt8.toNat_lt (gb s pl);have:=blk_lt hb;have:=blk_lt hm;have:=blk_lt hpb;have:=blk_lt h4;have:=blk_lt h5;have:=h7.1;have:=blk_lt h11;have:=blk_lt h12;have:=h14.1;have:=blk_lt h19;have:=blk_lt h20;have:=h22.1;omega) (stepF_len' (st:=st) (c:=gb s pl) (qs:=(atF st (↑pl:Int) (↑s.length:Int) (st.length + 1) 0 (putF ms l [first]).fst (putF ms l [first]).snd false).snd.fst)) (stepF_count' (st:=st) (c:=gb s pl) (qs:=(atF st (↑pl:Int) (↑s.length:Int) (st.length + 1) 0 (putF ms l [first]).fst (putF ms l [first]).snd false).snd.fst)) (stepF_mem' (c:=gb s pl) (qs:=(atF st (↑pl:Int) (↑s.length:Int) (st.length + 1) 0 (putF ms l [first]).fst (putF ms l [first]).snd false).snd.fst) hw) (by have:=UInt8.toNat_lt (gb s pl);have:=blk_lt hb;have:=blk_lt hm;have:=blk_lt hpb;have:=blk_lt h4;have:=blk_lt h5;have:=h7.1;have:=blk_lt h11;have:=blk_lt h12;have:=h14.1;have:=blk_lt h19;have:=blk_lt h20;have:=h22.1;omega))
  exact ⟨hp'23,loopStepC (St.mk (q0_m_c1 pb s w rb pl) hp'16) [.b 4 1 (beq_iff_eq.2 (hp0)), .m 5 6 zz0, .c 5 8 e3, .cb 6 2 e10 h15, .b 9 3 (beq_false_of_ne ((show ¬(↑pl:Int)=(↑s.length:Int) from (by omega)))), .v 11 3 (index_gb (C:=cfg m) (t:=9) (s:=s) (n:=(↑pl:Int)) (by kernel_rfl) (by omega) (by omega)), .c 11 4 e18, .w 3 1 IntKind.i64 ((↑pl:Int) + 1) (wrap_i64' (by omega))] (by kernel_rfl) e24 (by rw [mG];simp [*, -hp0]),trivial⟩
theorem m_c2 {m:Int} {fl pb rb mb sb first pl:Nat} {hp:List Blk} {s cs:List UInt8} {w:Bool} {st:List NS} {x1 x2 x3 x4 x5 x6 x7 x8 sl:AV} {ms:List Bool} {l:List Nat} (hb:blkCells hp rb=some [.arr 1 mb 0 st.length,sl, .ptr pb 0, .str s]) (hm:blkCells hp mb=some (ms.map .bool)) (hg:Gr fl 1 hp sl (l.map natAV)) (hpb:blkCells hp pb=some (progB sb st.length x1 x2 x3 x4 x5 x6 x7 x8 first)) (hst:StOK hp sb st) (hw:WF st) (hw1:st.length < 1000000) (hfi:first < st.length) (hp0:¬ (pl:Int)=0) (hww:w=false) (hf:fl≤rb) (hf2:fl≤mb) (hf3:fl≤hp.length) (hne:rb≠mb) (hps:pb≠rb) (hpm:pb≠mb) (hsr:sb≠rb) (hsm:sb≠mb) (hn:ms.length=st.length) (hc:l.length + ms.count false=st.length) (hq:∀ q ∈ l,q < st.length) (hpl:pl < s.length) (hpn:¬ pl=s.length) (hsz:s.length < 4611686018427387904) (hsl:sb < hp.length) (ih:∀ {hp1:List Blk} {sl1:AV} {mb1:Nat} {ms1:List Bool} {l1:List Nat},blkCells hp1 rb=some [.arr 1 mb1 0 st.length,sl1, .ptr pb 0, .str s]→blkCells hp1 mb1=some (ms1.map .bool)→Gr fl 1 hp1 sl1 (l1.map natAV)→blkCells hp1 pb=some (progB sb st.length x1 x2 x3 x4 x5 x6 x7 x8 first)→StOK hp1 sb st→fl≤mb1→fl≤hp1.length→rb≠mb1→pb≠mb1→sb≠mb1→ms1.length=st.length→l1.length + ms1.count false=st.length→(∀ q ∈ l1,q < st.length)→sb < hp1.length→∃ hp',LoopI (cfg m) fl fMatches (bodyAt (cfg m) fMatches 4) 4 ⟨mSt pb rb s w (pl + 1),hp1⟩ .ret ⟨mEnd (mF st first w s.length cs (pl + 1) ms1 l1),hp'⟩∧True):∃ hp',LoopI (cfg m) fl fMatches (bodyAt (cfg m) fMatches 4) 4 ⟨mSt pb rb s w pl,hp⟩ .ret ⟨mEnd (mG st first w s.length (putF ms l [first]) (gb s pl::cs) pl),hp'⟩∧True:=by
 obtain ⟨hp'1,sl'2,e3,h4,h5,h6,h7⟩:=(N.put_ok (m:=m) (x:=AV.lit 1 Own.exact [AI first]) (ks:=[first]) hb hm hg (isSl_first (first:=first)) hf hf2 hne hw1 (one_lt (first:=first)) (hd_mem hfi) hn hc)
 obtain ⟨hp'8,sl'9,e10,h11,h12,h13,h14⟩:=(at_ok (m:=m) (pl:=(↑pl:Int)) (rest:=[x1,x2,x3,x4,x5,x6,x7,x8,AI first]) h4 h5 h6 (frC_blk h7 hpb (by simp_all;done)) (StOK.fr h7 hst (by simp_all;done)) hw hf hf2 hne hps hpm hsr hsm (putF_len' (ks:=[first]) (l:=l) hn) (putF_count' (ks:=[first]) hc) (putF_mem1 (ms:=ms) hq hfi))
 rcases bcases ((atF st (↑pl:Int) (↑s.length:Int) (st.length + 1) 0 (putF ms l [first]).fst (putF ms l [first]).snd false).snd.snd) with h15 | h15
 ·exact ⟨hp'8,loopEndC .ret (St.mk [J,J,J,J,J,J,TV.v (AV.bool true),J,J,J,J,J,J,J,J,J,J,J,J,J,J,J,J,J,J,J,J,J,J,J,J,J,J,J,J,J,J,J,J,J,J,J,J,J,J,J,J,J,J,J,J,J,J,J,J,J,J,J,J,J,J,J] hp'8) [.b 4 1 (beq_false_of_ne (hp0)), .b 4 3 hww, .m 5 6 (load_ok (C:=cfg m) (t:=3) (off:=9) (x:=AI first) hpb (by kernel_rfl)), .c 5 8 e3, .cb 6 2 e10 h15, .b 7 2 hww] (by kernel_rfl) (fun h=>by cases h) (by rw [mG];simp [*, -hp0]),trivial⟩
 ·obtain ⟨hp'16,sl'17,e18,h19,h20,h21,h22⟩:=(step_ok (m:=m) (c:=gb s pl) (rest:=[x1,x2,x3,x4,x5,x6,x7,x8,AI first]) h11 h13 (frC_blk (b:=pb) (cs:=[AV.arr 6 sb 0 st.length,x1,x2,x3,x4,x5,x6,x7,x8,AI first]) h14 (frC_blk h7 hpb (by simp_all;done)) (by simp_all;done)) (StOK.fr (sb:=sb) (st:=st) h14 (StOK.fr h7 hst (by simp_all;done)) (by simp_all;done)) hw (by omega) (atF_mem' (pl:=(↑pl:Int)) (len:=(↑s.length:Int)) (fuel:=st.length + 1) (k:=0) (ms:=(putF ms l [first]).fst) (l:=(putF ms l [first]).snd) (f:=false) hw (putF_mem1 (ms:=ms) hq hfi)) (atF_le (st:=st) (pl:=(↑pl:Int)) (len:=(↑s.length:Int)) (fuel:=st.length + 1) (k:=0) (n:=st.length) (ms:=(putF ms l [first]).fst) (l:=(putF ms l [first]).snd) (f:=false) (putF_count' (ks:=[first]) hc)) hf (by have:=blk_lt hb;have:=blk_lt hm;have:=blk_lt hpb;have:=blk_lt h4;have:=blk_lt h5;have:=h7.1;have:=blk_lt h11;have:=blk_lt h12;have:=h14.1;omega) hps hsr (by have:=blk_lt hb;have:=blk_lt hm;have:=blk_lt hpb;have:=blk_lt h4;have:=blk_lt h5;have:=h7.1;have:=blk_lt h11;have:=blk_lt h12;have:=h14.1;omega))
  obtain ⟨hp'23,e24,h25⟩:=(ih h19 h20 h21 (frC_blk (b:=pb) (cs:=progB sb st.length x1 x2 x3 x4 x5 x6 x7 x8 first) h22 (frC_blk (b:=pb) (cs:=progB sb st.length x1 x2 x3 x4 x5 x6 x7 x8 first) h14 (frC_blk h7 hpb (by simp_all;done)) (by simp_all;done)) (by simp_all;done)) (StOK.fr (sb:=sb) (st:=st) h22 (StOK.fr (sb:=sb) (st:=st) h14 (StOK.fr h7 hst (by simp_all;done)) (by simp_all;done)) (by simp_all;done)) (by have:=UInt8.toNat_lt (gb s pl);have:=blk_lt hb;have:=blk_lt hm;have:=blk_lt hpb;have:=blk_lt h4;have:=blk_lt h5;have:=h7.1;have:=blk_lt h11;have:=blk_lt h12;have:=h14.1;have:=blk_lt h19;have:=blk_lt h20;have:=h22.1;omega) (by have:=UInt8.toNat_lt (gb s pl);have:=blk_lt hb;have:=blk_lt hm;have:=blk_lt hpb;have:=blk_lt h4;have:=blk_lt h5;have:=h7.1;have:=blk_lt h11;have:=blk_lt h12;have:=h14.1;have:=blk_lt h19;have:=blk_lt h20;have:=h22.1;omega) (by have:=UInt8.toNat_lt (gb s pl);have:=blk_lt hb;have:=blk_lt hm;have:=blk_lt hpb;have:=blk_lt h4;have:=blk_lt h5;have:=h7.1;have:=blk_lt h11;have:=blk_lt h12;have:=h14.1;have:=blk_lt h19;have:=blk_lt h20;have:=h22.1;omega) (by have:=UInt8.toNat_lt (gb s pl);have:=blk_lt hb;have:=blk_lt hm;have:=blk_lt hpb;have:=blk_lt h4;have:=blk_lt h5;have:=h7.1;have:=blk_lt h11;have:=blk_lt h12;have:=h14.1;have:=blk_lt h19;have:=blk_lt h20;have:=h22.1;omega) (by have:=UInt8.toNat_lt (gb s pl);have:=blk_lt hb;have:=blk_lt hm;have:=blk_lt hpb;have:=blk_lt h4;have:=blk_lt h5;have:=h7.1;have:=blk_lt h11;have:=blk_lt h12;have:=h14.1;have:=blk_lt h19;have:=blk_lt h20;have:=h22.1;omega) (stepF_len' (st:=st) (c:=gb s pl) (qs:=(atF st (↑pl:Int) (↑s.length:Int) (st.length + 1) 0 (putF ms l [first]).fst (putF ms l [first]).snd false).snd.fst)) (stepF_count' (st:=st) (c:=gb s pl) (qs:=(atF st (↑pl:Int) (↑s.length:Int) (st.length + 1) 0 (putF ms l [first]).fst (putF ms l [first]).snd false).snd.fst)) (stepF_mem' (c:=gb s pl) (qs:=(atF st (↑pl:Int) (↑s.length:Int) (st.length + 1) 0 (putF ms l [first]).fst (putF ms l [first]).snd false).snd.fst) hw) (by have:=UInt8.toNat_lt (gb s pl);have:=blk_lt hb;have:=blk_lt hm;have:=blk_lt hpb;have:=blk_lt h4;have:=blk_lt h5;have:=h7.1;have:=blk_lt h11;have:=blk_lt h12;have:=h14.1;have:=blk_lt h19;have:=blk_lt h20;have:=h22.1;omega))
  exact ⟨hp'23,loopStepC (St.mk [TV.v (AV.ptr pb 0),TV.v (AV.str s),TV.v (AV.bool w),J,J,J,J,TV.v (AV.ptr rb 0),TV.v (AI ((↑pl:Int) + 1)),J,J,J,J,J,J,J,J,J,J,J,J,J,J,J,J,J,J,J,J,J,J,J,J,J,J,J,J,J,J,J,J,J,J,J,J,J,J,J,J,J,J,J,J,J,J,J,J,J,J,J,J,J] hp'16) [.b 4 1 (beq_false_of_ne (hp0)), .b 4 3 hww, .m 5 6 (load_ok (C:=cfg m) (t:=3) (off:=9) (x:=AI first) hpb (by kernel_rfl)), .c 5 8 e3, .cb 6 2 e10 h15, .b 9 3 (beq_false_of_ne ((show ¬(↑pl:Int)=(↑s.length:Int) from (by omega)))), .v 11 3 (index_gb (C:=cfg m) (t:=9) (s:=s) (n:=(↑pl:Int)) (by kernel_rfl) (by omega) (by omega)), .c 11 4 e18, .w 3 1 IntKind.i64 ((↑pl:Int) + 1) (wrap_i64' (by omega))] (by kernel_rfl) e24 (by rw [mG];simp [*, -hp0]),trivial⟩
abbrev q0_m_c3 (pb:Nat) (s:List UInt8) (w:Bool) (rb:Nat) (pl:Int):List TV:=[TV.v (AV.ptr pb 0),TV.v (AV.str s),TV.v (AV.bool w),J,J,J,J,TV.v (AV.ptr rb 0),TV.v (AI ((↑pl:Int) + 1)),J,J,J,J,J,J,J,J,J,J,J,J,J,J,J,J,J,J,J,J,J,J,J,J,J,J,J,J,J,J,J,J,J,J,J,J,J,J,J,J,J,J,J,J,J,J,J,J,J,J,J,J,J]
theorem m_c3 {m:Int} {fl pb rb mb sb first pl:Nat} {hp:List Blk} {s cs:List UInt8} {w:Bool} {st:List NS} {x1 x2 x3 x4 x5 x6 x7 x8 sl:AV} {ms:List Bool} {l:List Nat} (hb:blkCells hp rb=some [.arr 1 mb 0 st.length,sl, .ptr pb 0, .str s]) (hm:blkCells hp mb=some (ms.map .bool)) (hg:Gr fl 1 hp sl (l.map natAV)) (hpb:blkCells hp pb=some (progB sb st.length x1 x2 x3 x4 x5 x6 x7 x8 first)) (hst:StOK hp sb st) (hw:WF st) (hw1:st.length < 1000000) (hfi:first < st.length) (hp0:¬ (pl:Int)=0) (hww:w=true) (hf:fl≤rb) (hf2:fl≤mb) (hf3:fl≤hp.length) (hne:rb≠mb) (hps:pb≠rb) (hpm:pb≠mb) (hsr:sb≠rb) (hsm:sb≠mb) (hn:ms.length=st.length) (hc:l.length + ms.count false=st.length) (hq:∀ q ∈ l,q < st.length) (hpl:pl < s.length) (hpn:¬ pl=s.length) (hsz:s.length < 4611686018427387904) (hsl:sb < hp.length) (ih:∀ {hp1:List Blk} {sl1:AV} {mb1:Nat} {ms1:List Bool} {l1:List Nat},blkCells hp1 rb=some [.arr 1 mb1 0 st.length,sl1, .ptr pb 0, .str s]→blkCells hp1 mb1=some (ms1.map .bool)→Gr fl 1 hp1 sl1 (l1.map natAV)→blkCells hp1 pb=some (progB sb st.length x1 x2 x3 x4 x5 x6 x7 x8 first)→StOK hp1 sb st→fl≤mb1→fl≤hp1.length→rb≠mb1→pb≠mb1→sb≠mb1→ms1.length=st.length→l1.length + ms1.count false=st.length→(∀ q ∈ l1,q < st.length)→sb < hp1.length→∃ hp',LoopI (cfg m) fl fMatches (bodyAt (cfg m) fMatches 4) 4 ⟨mSt pb rb s w (pl + 1),hp1⟩ .ret ⟨mEnd (mF st first w s.length cs (pl + 1) ms1 l1),hp'⟩∧True):∃ hp',LoopI (cfg m) fl fMatches (bodyAt (cfg m) fMatches 4) 4 ⟨mSt pb rb s w pl,hp⟩ .ret ⟨mEnd (mG st first w s.length (ms,l) (gb s pl::cs) pl),hp'⟩∧True:=by
 obtain ⟨hp'1,sl'2,e3,h4,h5,h6,h7⟩:=(at_ok (m:=m) (pl:=(↑pl:Int)) hb hm hg hpb hst hw hf hf2 hne hps hpm hsr hsm hn hc hq)
 rcases bcases ((atF st (↑pl:Int) (↑s.length:Int) (st.length + 1) 0 ms l false).snd.snd) with h8 | h8
 ·obtain ⟨hp'9,sl'10,e11,h12,h13,h14,h15⟩:=(step_ok (m:=m) (c:=gb s pl) (rest:=[x1,x2,x3,x4,x5,x6,x7,x8,AI first]) h4 h6 (frC_blk h7 hpb (by simp_all;done)) (StOK.fr h7 hst (by simp_all;done)) hw (by omega) (atF_mem' (pl:=(↑pl:Int)) (len:=(↑s.length:Int)) (fuel:=st.length + 1) (k:=0) (ms:=ms) (f:=false) hw hq) (atF_le (st:=st) (pl:=(↑pl:Int)) (len:=(↑s.length:Int)) (fuel:=st.length + 1) (k:=0) (f:=false) hc) hf (by have:=blk_lt hb;have:=blk_lt hm;have:=blk_lt hpb;have:=blk_lt h4;have:=blk_lt h5;have:=h7.1;omega) hps hsr (by have:=blk_lt hb;have:=blk_lt hm;have:=blk_lt hpb;have:=blk_lt h4;have:=blk_lt h5;have:=h7.1;omega))
  obtain ⟨hp'16,e17,h18⟩:=(ih h12 h13 h14 (frC_blk (b:=pb) (cs:=progB sb st.length x1 x2 x3 x4 x5 x6 x7 x8 first) h15 (frC_blk h7 hpb (by simp_all;done)) (by simp_all;done)) (StOK.fr (sb:=sb) (st:=st) h15 (StOK.fr h7 hst (by simp_all;done)) (by simp_all;done)) (by have:=UInt8.toNat_lt (gb s pl);have:=blk_lt hb;have:=blk_lt hm;have:=blk_lt hpb;have:=blk_lt h4;have:=blk_lt h5;have:=h7.1;have:=blk_lt h12;have:=blk_lt h13;have:=h15.1;omega) (by have:=UInt8.toNat_lt (gb s pl);have:=blk_lt hb;have:=blk_lt hm;have:=blk_lt hpb;have:=blk_lt h4;have:=blk_lt h5;have:=h7.1;have:=blk_lt h12;have:=blk_lt h13;have:=h15.1;omega) (by have:=UInt8.toNat_lt (gb s pl);have:=blk_lt hb;have:=blk_lt hm;have:=blk_lt hpb;have:=blk_lt h4;have:=blk_lt h5;have:=h7.1;have:=blk_lt h12;have:=blk_lt h13;have:=h15.1;omega) (by have:=UInt8.toNat_lt (gb s pl);have:=blk_lt hb;have:=blk_lt hm;have:=blk_lt hpb;have:=blk_lt h4;have:=blk_lt h5;have:=h7.1;have:=blk_lt h12;have:=blk_lt h13;have:=h15.1;omega) (by have:=UInt8.toNat_lt (gb s pl);have:=blk_lt hb;have:=blk_lt hm;have:=blk_lt hpb;have:=blk_lt h4;have:=blk_lt h5;have:=h7.1;have:=blk_lt h12;have:=blk_lt h13;have:=h15.1;omega) (stepF_len' (st:=st) (c:=gb s pl) (qs:=(atF st (↑pl:Int) (↑s.length:Int) (st.length + 1) 0 ms l false).snd.fst)) (stepF_count' (st:=st) (c:=gb s pl) (qs:=(atF st (↑pl:Int) (↑s.length:Int) (st.length + 1) 0 ms l false).snd.fst)) (stepF_mem' (c:=gb s pl) (qs:=(atF st (↑pl:Int) (↑s.length:Int) (st.length + 1) 0 ms l false).snd.fst) hw) (by have:=UInt8.toNat_lt (gb s pl);have:=blk_lt hb;have:=blk_lt hm;have:=blk_lt hpb;have:=blk_lt h4;have:=blk_lt h5;have:=h7.1;have:=blk_lt h12;have:=blk_lt h13;have:=h15.1;omega))
  exact ⟨hp'16,loopStepC (St.mk (q0_m_c3 pb s w rb pl) hp'9) [.b 4 1 (beq_false_of_ne (hp0)), .b 4 3 hww, .cb 6 2 e3 h8, .b 7 2 hww, .b 7 8 (beq_false_of_ne ((show ¬(↑pl:Int)=(↑s.length:Int) from (by omega)))), .b 9 3 (beq_false_of_ne ((show ¬(↑pl:Int)=(↑s.length:Int) from (by omega)))), .v 11 3 (index_gb (C:=cfg m) (t:=9) (s:=s) (n:=(↑pl:Int)) (by kernel_rfl) (by omega) (by omega)), .c 11 4 e11, .w 3 1 IntKind.i64 ((↑pl:Int) + 1) (wrap_i64' (by omega))] (by kernel_rfl) e17 (by rw [mG];simp [*, -hp0]),trivial⟩
 ·obtain ⟨hp'9,sl'10,e11,h12,h13,h14,h15⟩:=(step_ok (m:=m) (c:=gb s pl) (rest:=[x1,x2,x3,x4,x5,x6,x7,x8,AI first]) h4 h6 (frC_blk h7 hpb (by simp_all;done)) (StOK.fr h7 hst (by simp_all;done)) hw (by omega) (atF_mem' (pl:=(↑pl:Int)) (len:=(↑s.length:Int)) (fuel:=st.length + 1) (k:=0) (ms:=ms) (f:=false) hw hq) (atF_le (st:=st) (pl:=(↑pl:Int)) (len:=(↑s.length:Int)) (fuel:=st.length + 1) (k:=0) (f:=false) hc) hf (by have:=blk_lt hb;have:=blk_lt hm;have:=blk_lt hpb;have:=blk_lt h4;have:=blk_lt h5;have:=h7.1;omega) hps hsr (by have:=blk_lt hb;have:=blk_lt hm;have:=blk_lt hpb;have:=blk_lt h4;have:=blk_lt h5;have:=h7.1;omega))
  obtain ⟨hp'16,e17,h18⟩:=(ih h12 h13 h14 (frC_blk (b:=pb) (cs:=progB sb st.length x1 x2 x3 x4 x5 x6 x7 x8 first) h15 (frC_blk h7 hpb (by simp_all;done)) (by simp_all;done)) (StOK.fr (sb:=sb) (st:=st) h15 (StOK.fr h7 hst (by simp_all;done)) (by simp_all;done)) (by have:=UInt8.toNat_lt (gb s pl);have:=blk_lt hb;have:=blk_lt hm;have:=blk_lt hpb;have:=blk_lt h4;have:=blk_lt h5;have:=h7.1;have:=blk_lt h12;have:=blk_lt h13;have:=h15.1;omega) (by have:=UInt8.toNat_lt (gb s pl);have:=blk_lt hb;have:=blk_lt hm;have:=blk_lt hpb;have:=blk_lt h4;have:=blk_lt h5;have:=h7.1;have:=blk_lt h12;have:=blk_lt h13;have:=h15.1;omega) (by have:=UInt8.toNat_lt (gb s pl);have:=blk_lt hb;have:=blk_lt hm;have:=blk_lt hpb;have:=blk_lt h4;have:=blk_lt h5;have:=h7.1;have:=blk_lt h12;have:=blk_lt h13;have:=h15.1;omega) (by have:=UInt8.toNat_lt (gb s pl);have:=blk_lt hb;have:=blk_lt hm;have:=blk_lt hpb;have:=blk_lt h4;have:=blk_lt h5;have:=h7.1;have:=blk_lt h12;have:=blk_lt h13;have:=h15.1;omega) (by have:=UInt8.toNat_lt (gb s pl);have:=blk_lt hb;have:=blk_lt hm;have:=blk_lt hpb;have:=blk_lt h4;have:=blk_lt h5;have:=h7.1;have:=blk_lt h12;have:=blk_lt h13;have:=h15.1;omega) (stepF_len' (st:=st) (c:=gb s pl) (qs:=(atF st (↑pl:Int) (↑s.length:Int) (st.length + 1) 0 ms l false).snd.fst)) (stepF_count' (st:=st) (c:=gb s pl) (qs:=(atF st (↑pl:Int) (↑s.length:Int) (st.length + 1) 0 ms l false).snd.fst)) (stepF_mem' (c:=gb s pl) (qs:=(atF st (↑pl:Int) (↑s.length:Int) (st.length + 1) 0 ms l false).snd.fst) hw) (by have:=UInt8.toNat_lt (gb s pl);have:=blk_lt hb;have:=blk_lt hm;have:=blk_lt hpb;have:=blk_lt h4;have:=blk_lt h5;have:=h7.1;have:=blk_lt h12;have:=blk_lt h13;have:=h15.1;omega))
  exact ⟨hp'16,loopStepC (St.mk (q0_m_c3 pb s w rb pl) hp'9) [.b 4 1 (beq_false_of_ne (hp0)), .b 4 3 hww, .cb 6 2 e3 h8, .b 9 3 (beq_false_of_ne ((show ¬(↑pl:Int)=(↑s.length:Int) from (by omega)))), .v 11 3 (index_gb (C:=cfg m) (t:=9) (s:=s) (n:=(↑pl:Int)) (by kernel_rfl) (by omega) (by omega)), .c 11 4 e11, .w 3 1 IntKind.i64 ((↑pl:Int) + 1) (wrap_i64' (by omega))] (by kernel_rfl) e17 (by rw [mG];simp [*, -hp0]),trivial⟩
theorem mPut_e (first:Nat) (w:Bool) (pl:Nat) (ms:List Bool) (l:List Nat):((pl:Int)=0∧mPut first w pl ms l=putF ms l [first])∨(¬ (pl:Int)=0∧w=false∧mPut first w pl ms l=putF ms l [first])∨(¬ (pl:Int)=0∧w=true∧mPut first w pl ms l=(ms,l)):=by
 unfold mPut
 by_cases h:pl=0
 ·left;simp [h]
 ·right
  cases w <;> simp [h]
theorem m_loop {m:Int} {fl pb rb sb first:Nat} {s:List UInt8} {w:Bool} {st:List NS} {x1 x2 x3 x4 x5 x6 x7 x8:AV} (hw:WF st) (hfi:first < st.length) (hf:fl≤rb) (hps:pb≠rb) (hsr:sb≠rb) (hsz:s.length < 4611686018427387904) :
  ∀ (cs:List UInt8) (pl:Nat) {hp:List Blk} {sl:AV} {mb:Nat} {ms:List Bool} {l:List Nat},s.drop pl=cs→pl≤s.length→blkCells hp rb=some [.arr 1 mb 0 st.length,sl, .ptr pb 0, .str s]→blkCells hp mb=some (ms.map .bool)→Gr fl 1 hp sl (l.map natAV)→blkCells hp pb=some (progB sb st.length x1 x2 x3 x4 x5 x6 x7 x8 first)→StOK hp sb st→fl≤mb→fl≤hp.length→rb≠mb→pb≠mb→sb≠mb→ms.length=st.length→l.length + ms.count false=st.length→(∀ q ∈ l,q < st.length)→sb < hp.length →
   ∃ hp',LoopI (cfg m) fl fMatches (bodyAt (cfg m) fMatches 4) 4 ⟨mSt pb rb s w pl,hp⟩ .ret ⟨mEnd (mF st first w s.length cs pl ms l),hp'⟩∧True
 | [],pl,hp,sl,mb,ms,l,hd,hpl,hb,hm,hg,hpb,hst,hf2,hf3,hne,hpm,hsm,hn,hc,hq,hsl=>by
  have he:pl=s.length:=by
   have:s.length≤pl:=by simpa using hd
   omega
  have ht:(pl=s.length)=True:=by simp [he]
  rw [mF]
  rcases mPut_e first w pl ms l with ⟨a,b⟩ | ⟨a,b,c⟩ | ⟨a,b,c⟩
  ·rw [b];exact m_e1 hb hm hg hpb hst hw hw.1 hfi a hf hf2 hne hps hpm hsr hsm hn hc hq he ht hsl
  ·rw [c];exact m_e2 hb hm hg hpb hst hw hw.1 hfi a b hf hf2 hne hps hpm hsr hsm hn hc hq he ht hsl
  ·rw [c];exact m_e3 hb hm hg hpb hst hw hw.1 hfi a b hf hf2 hne hps hpm hsr hsm hn hc hq he ht hsl
 | c0::cs,pl,hp,sl,mb,ms,l,hd,hpl,hb,hm,hg,hpb,hst,hf2,hf3,hne,hpm,hsm,hn,hc,hq,hsl=>by
  have hlt:pl < s.length:=by
   rcases Nat.lt_or_ge pl s.length with h | h
   ·exact h
   ·rw [List.drop_eq_nil_of_le h] at hd;cases hd
  have hg0:gb s pl=c0:=by
   have:s[pl]?=some c0:=by
    have:=congrArg (·[0]?) hd
    simpa using this
   unfold gb
   rw [List.getD_eq_getElem?_getD,this];rfl
  have hd':s.drop (pl + 1)=cs:=by rw [← List.drop_drop,hd];rfl
  subst hg0
  rw [mF]
  have ih:∀ {hp1:List Blk} {sl1:AV} {mb1:Nat} {ms1:List Bool} {l1:List Nat},blkCells hp1 rb=some [.arr 1 mb1 0 st.length,sl1, .ptr pb 0, .str s]→blkCells hp1 mb1=some (ms1.map .bool)→Gr fl 1 hp1 sl1 (l1.map natAV)→blkCells hp1 pb=some (progB sb st.length x1 x2 x3 x4 x5 x6 x7 x8 first)→StOK hp1 sb st→fl≤mb1→fl≤hp1.length→rb≠mb1→pb≠mb1→sb≠mb1→ms1.length=st.length→l1.length + ms1.count false=st.length→(∀ q ∈ l1,q < st.length)→sb < hp1.length→∃ hp',LoopI (cfg m) fl fMatches (bodyAt (cfg m) fMatches 4) 4 ⟨mSt pb rb s w (pl + 1),hp1⟩ .ret ⟨mEnd (mF st first w s.length cs (pl + 1) ms1 l1),hp'⟩∧True :=
   fun a1 a2 a3 a4 a5 a6 a7 a8 a9 a10 a11 a12 a13 a14=>m_loop hw hfi hf hps hsr hsz cs (pl + 1) hd' hlt a1 a2 a3 a4 a5 a6 a7 a8 a9 a10 a11 a12 a13 a14
  rcases mPut_e first w pl ms l with ⟨a,b⟩ | ⟨a,b,c⟩ | ⟨a,b,c⟩
  ·rw [b];exact m_c1 hb hm hg hpb hst hw hw.1 hfi a hf hf2 hf3 hne hps hpm hsr hsm hn hc hq hlt (by omega) hsz hsl ih
  ·rw [c];exact m_c2 hb hm hg hpb hst hw hw.1 hfi a b hf hf2 hf3 hne hps hpm hsr hsm hn hc hq hlt (by omega) hsz hsl ih
  ·rw [c];exact m_c3 hb hm hg hpb hst hw hw.1 hfi a b hf hf2 hf3 hne hps hpm hsr hsm hn hc hq hlt (by omega) hsz hsl ih
def matchF (st:List NS) (first:Nat) (w:Bool) (s:List UInt8):Bool:=mF st first w s.length s 0 (List.replicate st.length false) []
theorem m_lp {m:Int} {fl pb rb mb sb first:Nat} {hp:List Blk} {s:List UInt8} {w:Bool} {st:List NS} {x1 x2 x3 x4 x5 x6 x7 x8:AV} (hb:blkCells hp rb=some [.arr 1 mb 0 st.length, .nilS, .ptr pb 0, .str s]) (hm:blkCells hp mb=some ((List.replicate st.length false).map .bool)) (hpb:blkCells hp pb=some (progB sb st.length x1 x2 x3 x4 x5 x6 x7 x8 first)) (hst:StOK hp sb st) (hw:WF st) (hfi:first < st.length) (hsz:s.length < 4611686018427387904) (hf:fl≤rb) (hf2:fl≤mb) (hf3:fl≤hp.length) (hne:rb≠mb) (hps:pb≠rb) (hpm:pb≠mb) (hsr:sb≠rb) (hsm:sb≠mb) (hsl:sb < hp.length) :
  ∃ hp',LoopI (cfg m) fl fMatches (bodyAt (cfg m) fMatches 4) 4 ⟨mSt pb rb s w 0,hp⟩ .ret ⟨mEnd (matchF st first w s),hp'⟩∧True :=
 m_loop hw hfi hf hps hsr hsz s 0 rfl (by omega) hb hm gr_nil hpb hst hf2 hf3 hne hpm hsm (by simp) (by simp) (by simp) hsl
theorem matches_ok {m:Int} {fl pb sb first:Nat} {hp:List Blk} {s:List UInt8} {w:Bool} {st:List NS} {x1 x2 x3 x4 x5 x6 x7 x8:AV} (hpb:blkCells hp pb=some (progB sb st.length x1 x2 x3 x4 x5 x6 x7 x8 first)) (hst:StOK hp sb st) (hw:WF st) (hw1:st.length≤1000000) (hfi:first < st.length) (hsz:s.length < 4611686018427387904) (hsl:sb < hp.length):evI (cfg m) fl fMatches [.ptr pb 0, .str s, .bool w] hp=some (.bool (matchF st first w s),hp):=by
 obtain ⟨hp'1,e2,h3⟩:=(m_lp (m:=m) (fl:=hp.length) (pb:=pb) (rb:=(hp++[BC (List.map AV.bool (List.replicate st.length false))]).length) (mb:=hp.length) (sb:=sb) (hp:=hp++[BC (List.map AV.bool (List.replicate st.length false))]++[BC [AV.arr 1 hp.length 0 st.length,AV.nilS,AV.ptr pb 0,AV.str s]]) (w:=w) (x1:=x1) (x2:=x2) (x3:=x3) (x4:=x4) (x5:=x5) (x6:=x6) (x7:=x7) (x8:=x8) blk_last (blk_app blk_last) (blk_app (blk_app hpb)) (StOK.app (hp:=hp++[BC (List.map AV.bool (List.replicate st.length false))]) (r:=[BC [AV.arr 1 hp.length 0 st.length,AV.nilS,AV.ptr pb 0,AV.str s]]) (sb:=sb) (st:=st) (StOK.app (r:=[BC (List.map AV.bool (List.replicate st.length false))]) hst)) hw hfi hsz (by have:=blk_lt hpb;simp only [setAt_length,List.length_append,List.length_cons,List.length_nil,List.length_map] at *;omega) (by omega) (by have:=blk_lt hpb;simp only [setAt_length,List.length_append,List.length_cons,List.length_nil,List.length_map] at *;omega) (by have:=blk_lt hpb;simp only [setAt_length,List.length_append,List.length_cons,List.length_nil,List.length_map] at *;omega) (by have:=blk_lt hpb;simp only [setAt_length,List.length_append,List.length_cons,List.length_nil,List.length_map] at *;omega) (by have:=blk_lt hpb;omega) (by have:=blk_lt hpb;simp only [setAt_length,List.length_append,List.length_cons,List.length_nil,List.length_map] at *;omega) (by omega) (by have:=blk_lt hpb;simp only [setAt_length,List.length_append,List.length_cons,List.length_nil,List.length_map] at *;omega))
 exact evX (AV.bool (matchF st first w s)) (hp'1) [.m 1 4 (load_ok (C:=cfg m) (t:=50) (off:=0) (x:=AV.arr 6 sb 0 st.length) hpb (by kernel_rfl)), .m 1 6 (mkSl_bools (C:=cfg m) (t:=66) (hp:=hp) (k:=IntKind.i64) (k':=IntKind.i64) (by kernel_rfl) hw1), .l 4 e2] (by kernel_rfl) (tlP (by kernel_rfl) rfl (shutT (v:=AV.bool (matchF st first w s)) (v':=AV.bool (matchF st first w s)) (by kernel_rfl))) (by simp [*])
end Go.Proofs.YtanopbolgfcojaaGreatDoor.E.SZ.N
/- The program of a node: a state that is added. -/
namespace Go.Proofs.YtanopbolgfcojaaGreatDoor.E.SZ.N
open Go Go.Proofs E E.R
theorem append_one {C : Cfg} {fl sz bytes b n : Nat} {hp : List Blk} {vs cs : List AV} {o : Own} {t : TypeId} (h : blkCells hp b = some (flat vs)) (hvs : AggN sz vs) (hc : cs.length = sz) (hn : n = vs.length) (ht : elT C t sz bytes = true) (h1 : sz ≠ 1) (hl : (vs.length + 1) * bytes ≤ 35184372088832) (hf : fl ≤ b) :
    ∀ ts, builtinE C fl true ⟨ts, hp⟩ .append [t, t] [.arr sz b 0 n, .lit sz o [.agg cs]] = some ⟨.v (.arr sz hp.length 0 (n + 1)), ts, setAt hp b .dead ++ [.cells (flat (vs ++ [.agg cs]))], .hw⟩ := by
  intro ts
  subst hn
  obtain ⟨e, a, b0, c, d, ei, g1, g2, rfl, rfl, h5, h6⟩ := elT_ty ht
  have ha : AggN ei.size [.agg cs] := fun v hv => ⟨cs, by simpa using hv, hc⟩
  have he : elems hp ei.size (.arr ei.size b 0 vs.length) = some vs := RowN.elems (n := b) (.inr ⟨b, rfl, h, Nat.le_refl _, hvs⟩) h1
  have k5 : (ei.size == 0) = false := by simpa using h5
  have k6 : (ei.bytes == 0) = false := by simpa using h6
  have hy : elems hp ei.size (.lit ei.size o [.agg cs]) = some [.agg cs] := by
    simp [elems]
  have hk : (([AV.agg cs] : List AV).length == 0) = false := rfl
  have hl' : decide ((vs.length + ([AV.agg cs] : List AV).length) * ei.bytes ≤ 35184372088832) = true := decide_eq_true hl
  have hfl : decide (fl ≤ b) = true := decide_eq_true (by omega)
  have hcap : decide (0 + (vs.length + ([AV.agg cs] : List AV).length) * ei.size ≤ (flat vs).length) = false := decide_eq_false (by
        rw [E.flat_len hvs, Nat.add_mul]
        have : 0 < ([AV.agg cs] : List AV).length * ei.size := Nat.mul_pos (by simp) (by omega)
        omega)
  have n1 : isSlc (.arr ei.size b 0 vs.length) = true := rfl
  have n2 : isArr (.arr ei.size b 0 vs.length) = true := rfl
  simp only [builtinE, appendE, appElems, g1, g2, he, hy, hl', k5, k6, n1, n2, hk, h, hfl, hcap, Bool.not_true, Bool.or_self, Bool.true_or, cond_false rfl, cond_true rfl]
  rfl
theorem append_st {m : Int} {fl b n : Nat} {hp : List Blk} {vs : List AV} {c1 c2 c3 c4 c5 c6 : AV} {o : Own} (h : blkCells hp b = some (flat vs)) (hvs : AggN 6 vs) (hn : n = vs.length) (hl : vs.length < 1000000) (hf : fl ≤ b) :
    ∀ ts, builtinE (cfg m) fl true ⟨ts, hp⟩ .append [50, 50] [.arr 6 b 0 n, .lit 6 o [.agg [c1, c2, c3, c4, c5, c6]]] = some ⟨.v (.arr 6 hp.length 0 (n + 1)), ts, setAt hp b .dead ++ [.cells (flat (vs ++ [.agg [c1, c2, c3, c4, c5, c6]]))], .hw⟩ :=
  append_one h hvs rfl hn (bytes := 64) (by kernel_rfl) (by decide) (by omega) hf
theorem add_lit {m : Int} {fl pb sb n : Nat} {hp : List Blk} {s : W4} {k : Int} {o : Own} {vs : List AV} {rows : List AV} {x1 x2 x3 x4 x5 x6 x7 x8 : AV} {first : Nat} (hpb : blkCells hp pb = some (progB sb n x1 x2 x3 x4 x5 x6 x7 x8 first)) (hsb : blkCells hp sb = some (flat rows)) (ha : AggN 6 rows) (hn : n = rows.length) (hl : rows.length < 1000000) (hne : pb ≠ sb) (hf : fl ≤ pb) (hf2 : fl ≤ sb) : evI (cfg m) fl 25 [.ptr pb 0, .int .i64 k, .agg s.av, .lit 1 o vs] hp = some (.int .i64 (((n + 1 : Nat) : Int) - 1), setAt (setAt hp sb .dead) pb (.cells (progB hp.length (n + 1) x1 x2 x3 x4 x5 x6 x7 x8 first)) ++ [.cells (flat (rows ++ [.agg [.int .i64 k, wAV s.a, wAV s.b, wAV s.c, wAV s.d, .lit 1 o vs]]))]) := by
  exact evX (AI ((↑(n + 1) : Int) - 1)) (setAt (setAt hp sb Blk.dead) pb (BC [AV.arr 6 hp.length 0 (n + 1), x1, x2, x3, x4, x5, x6, x7, x8, AI first]) ++ [BC (flat (rows ++ [AV.agg [AI k, AW s.a.toNat, AW s.b.toNat, AW s.c.toNat, AW s.d.toNat, AV.lit 1 o vs]]))]) [.m 1 4 (load_ok (C := cfg m) (t := 50) (off := 0) (x := AV.arr 6 sb 0 n) hpb (by kernel_rfl)), .m 1 10 (append_st (m := m) (c1 := AI k) (c2 := AW s.a.toNat) (c3 := AW s.b.toNat) (c4 := AW s.c.toNat) (c5 := AW s.d.toNat) (c6 := AV.lit 1 o vs) (o := Own.exact) hsb ha hn hl hf2), .t 1 13 (store_ok (C := cfg m) (t := 50) (off := 0) (hp := setAt hp sb Blk.dead ++ [BC (flat (rows ++ [AV.agg [AI k, AW s.a.toNat, AW s.b.toNat, AW s.c.toNat, AW s.d.toNat, AV.lit 1 o vs]]))]) (hp' := setAt (setAt hp sb Blk.dead) pb (BC [AV.arr 6 hp.length 0 (n + 1), x1, x2, x3, x4, x5, x6, x7, x8, AI first]) ++ [BC (flat (rows ++ [AV.agg [AI k, AW s.a.toNat, AW s.b.toNat, AW s.c.toNat, AW s.d.toNat, AV.lit 1 o vs]]))]) (cs := progB sb n x1 x2 x3 x4 x5 x6 x7 x8 first) (cs' := [AV.arr 6 hp.length 0 (n + 1), x1, x2, x3, x4, x5, x6, x7, x8, AI first]) (x := AV.arr 6 hp.length 0 (n + 1)) (blk_app (blk_set_ne (by omega) hpb)) (by kernel_rfl) hf (setAt_app (blk_lt (hp := setAt hp sb Blk.dead) (b := pb) (cs := progB sb n x1 x2 x3 x4 x5 x6 x7 x8 first) (blk_set_ne (by omega) hpb)))), .m 2 3 (load_ok (C := cfg m) (t := 50) (b := pb) (off := 0) (hp := setAt (setAt hp sb Blk.dead) pb (BC [AV.arr 6 hp.length 0 (n + 1), x1, x2, x3, x4, x5, x6, x7, x8, AI first]) ++ [BC (flat (rows ++ [AV.agg [AI k, AW s.a.toNat, AW s.b.toNat, AW s.c.toNat, AW s.d.toNat, AV.lit 1 o vs]]))]) (cs := [AV.arr 6 hp.length 0 (n + 1), x1, x2, x3, x4, x5, x6, x7, x8, AI first]) (x := AV.arr 6 hp.length 0 (n + 1)) (blk_app (blk_set (blk_lt (hp := setAt hp sb Blk.dead) (b := pb) (cs := progB sb n x1 x2 x3 x4 x5 x6 x7 x8 first) (blk_set_ne (by omega) hpb)))) (by kernel_rfl)), .w 2 5 IntKind.i64 ((↑(n + 1) : Int) - 1) (wrap_i64' (by omega))] (by kernel_rfl) (tlK (by kernel_rfl) rfl) rfl
abbrev q0_add_nil (rows : List AV) (k : Int) (s : W4) : List Blk := [BC (flat (rows ++ [AV.agg [AI k, AW s.a.toNat, AW s.b.toNat, AW s.c.toNat, AW s.d.toNat, AV.nilS]]))]
theorem add_nil {m : Int} {fl pb sb n : Nat} {hp : List Blk} {s : W4} {k : Int} {rows : List AV} {x1 x2 x3 x4 x5 x6 x7 x8 : AV} {first : Nat} (hpb : blkCells hp pb = some (progB sb n x1 x2 x3 x4 x5 x6 x7 x8 first)) (hsb : blkCells hp sb = some (flat rows)) (ha : AggN 6 rows) (hn : n = rows.length) (hl : rows.length < 1000000) (hne : pb ≠ sb) (hf : fl ≤ pb) (hf2 : fl ≤ sb) : evI (cfg m) fl 25 [.ptr pb 0, .int .i64 k, .agg s.av, .nilS] hp = some (.int .i64 (((n + 1 : Nat) : Int) - 1), setAt (setAt hp sb .dead) pb (.cells (progB hp.length (n + 1) x1 x2 x3 x4 x5 x6 x7 x8 first)) ++ [.cells (flat (rows ++ [.agg [.int .i64 k, wAV s.a, wAV s.b, wAV s.c, wAV s.d, .nilS]]))]) := by
  exact evX (AI ((↑(n + 1) : Int) - 1)) (setAt (setAt hp sb Blk.dead) pb (BC [AV.arr 6 hp.length 0 (n + 1), x1, x2, x3, x4, x5, x6, x7, x8, AI first]) ++ (q0_add_nil rows k s)) [.m 1 4 (load_ok (C := cfg m) (t := 50) (off := 0) (x := AV.arr 6 sb 0 n) hpb (by kernel_rfl)), .m 1 10 (append_st (m := m) (c1 := AI k) (c2 := AW s.a.toNat) (c3 := AW s.b.toNat) (c4 := AW s.c.toNat) (c5 := AW s.d.toNat) (c6 := AV.nilS) (o := Own.exact) hsb ha hn hl hf2), .t 1 13 (store_ok (C := cfg m) (t := 50) (off := 0) (hp := setAt hp sb Blk.dead ++ (q0_add_nil rows k s)) (hp' := setAt (setAt hp sb Blk.dead) pb (BC [AV.arr 6 hp.length 0 (n + 1), x1, x2, x3, x4, x5, x6, x7, x8, AI first]) ++ (q0_add_nil rows k s)) (cs := progB sb n x1 x2 x3 x4 x5 x6 x7 x8 first) (cs' := [AV.arr 6 hp.length 0 (n + 1), x1, x2, x3, x4, x5, x6, x7, x8, AI first]) (x := AV.arr 6 hp.length 0 (n + 1)) (blk_app (blk_set_ne (by omega) hpb)) (by kernel_rfl) hf (setAt_app (blk_lt (hp := setAt hp sb Blk.dead) (b := pb) (cs := progB sb n x1 x2 x3 x4 x5 x6 x7 x8 first) (blk_set_ne (by omega) hpb)))), .m 2 3 (load_ok (C := cfg m) (t := 50) (b := pb) (off := 0) (hp := setAt (setAt hp sb Blk.dead) pb (BC [AV.arr 6 hp.length 0 (n + 1), x1, x2, x3, x4, x5, x6, x7, x8, AI first]) ++ (q0_add_nil rows k s)) (cs := [AV.arr 6 hp.length 0 (n + 1), x1, x2, x3, x4, x5, x6, x7, x8, AI first]) (x := AV.arr 6 hp.length 0 (n + 1)) (blk_app (blk_set (blk_lt (hp := setAt hp sb Blk.dead) (b := pb) (cs := progB sb n x1 x2 x3 x4 x5 x6 x7 x8 first) (blk_set_ne (by omega) hpb)))) (by kernel_rfl)), .w 2 5 IntKind.i64 ((↑(n + 1) : Int) - 1) (wrap_i64' (by omega))] (by kernel_rfl) (tlK (by kernel_rfl) rfl) rfl
end Go.Proofs.YtanopbolgfcojaaGreatDoor.E.SZ.N
/- The program of a node: its states as a list; adding one. -/
namespace Go.Proofs.YtanopbolgfcojaaGreatDoor.E.SZ.N
open Go Go.Proofs E E.R
/-- what a program's block holds behind its states -/
structure Px where
  x1 : AV
  x2 : AV
  x3 : AV
  x4 : AV
  x5 : AV
  x6 : AV
  x7 : AV
  x8 : AV
  first : Nat
abbrev Px.B (p : Px) (sb n : Nat) : List AV := progB sb n p.x1 p.x2 p.x3 p.x4 p.x5 p.x6 p.x7 p.x8 p.first
/-- where a state goes on; a lone next lies in a slice of its own (Repeat adds to it) -/
def NxR (nx : AV) (l : List Nat) : Prop := IsSl 1 nx (l.map natAV) ∧ (l.length = 1 → nx = .lit 1 .exact (l.map natAV))
def StR (x : NS) (v : AV) : Prop := ∃ nx, v = .agg (nsAV x nx) ∧ NxR nx x.next
def Rows (st : List NS) (rows : List AV) : Prop := rows.length = st.length ∧ ∀ (i : Nat) (x : NS), st[i]? = some x → ∃ v, rows[i]? = some v ∧ StR x v
theorem Rows.agg {st : List NS} {rows : List AV} (h : Rows st rows) : AggN 6 rows := fun v hv => by
  obtain ⟨i, hi⟩ := List.getElem?_of_mem hv
  have hl : i < st.length := by rw [← h.1]; exact (List.getElem?_eq_some_iff.1 hi).1
  obtain ⟨w, h1, nx, h2, _⟩ := h.2 i st[i] (List.getElem?_eq_getElem hl)
  rw [hi] at h1
  obtain rfl := Option.some.inj h1
  exact ⟨_, h2, rfl⟩
theorem Rows.app {st : List NS} {rows : List AV} {x : NS} {v : AV} (h : Rows st rows) (hv : StR x v) : Rows (st ++ [x]) (rows ++ [v]) := by
  refine ⟨by simp [h.1], fun i y hy => ?_⟩
  rcases Nat.lt_or_ge i st.length with hi | hi
  · rw [List.getElem?_append_left hi] at hy
    obtain ⟨w, h1, h2⟩ := h.2 i y hy
    exact ⟨w, by rw [List.getElem?_append_left (by rw [h.1]; exact hi)]; exact h1, h2⟩
  · rw [List.getElem?_append_right hi] at hy
    rw [List.getElem?_append_right (by rw [h.1]; exact hi), h.1]
    have e0 : i - st.length = 0 := by
      have := (List.getElem?_eq_some_iff.1 hy).1
      simp at this; omega
    rw [e0] at hy ⊢
    simp at hy; subst hy
    exact ⟨v, by simp, hv⟩
theorem Rows.set {st : List NS} {rows : List AV} {x : NS} {v : AV} {k : Nat} (h : Rows st rows) (hv : StR x v) : Rows (st.set k x) (rows.set k v) := by
  refine ⟨by simp [h.1], fun i y hy => ?_⟩
  by_cases hk : k = i
  · subst hk
    have hl : k < st.length := by have := (List.getElem?_eq_some_iff.1 hy).1; simpa using this
    rw [List.getElem?_set_self hl] at hy
    obtain rfl := Option.some.inj hy
    exact ⟨v, by rw [List.getElem?_set_self (by rw [h.1]; exact hl)], hv⟩
  · rw [List.getElem?_set_ne hk] at hy ⊢
    exact h.2 i y hy
/-- a program under way: its block, its states -/
def PS (fl pb sb : Nat) (hp : List Blk) (p : Px) (st : List NS) : Prop := ∃ rows, blkCells hp pb = some (p.B sb st.length) ∧ blkCells hp sb = some (flat rows) ∧ Rows st rows ∧ pb ≠ sb ∧ fl ≤ pb ∧ fl ≤ sb
/-- a heap that grows, of which but the program's blocks turn -/
def FrX (pb sb sb' : Nat) (hp hp' : List Blk) : Prop := hp.length ≤ hp'.length ∧ (sb' = sb ∨ hp.length ≤ sb') ∧ ∀ c, c < hp.length → c ≠ pb → c ≠ sb → getAt hp' c = getAt hp c
theorem FrX.refl (pb sb : Nat) (hp : List Blk) : FrX pb sb sb hp hp := ⟨Nat.le_refl _, .inl rfl, fun _ _ _ _ => rfl⟩
theorem FrX.trans {pb s1 s2 s3 : Nat} {a b c : List Blk} (h : FrX pb s1 s2 a b) (g : FrX pb s2 s3 b c) : FrX pb s1 s3 a c := by
  refine ⟨Nat.le_trans h.1 g.1, ?_, fun x hx h1 h2 => ?_⟩
  · have := h.1
    rcases g.2.1 with rfl | e
    · exact h.2.1
    · exact .inr (by omega)
  · rw [g.2.2 x (by have := h.1; omega) h1 (by rcases h.2.1 with rfl | e; · exact h2
                                               · omega), h.2.2 x hx h1 h2]
theorem add_ps {m : Int} {fl pb sb : Nat} {hp : List Blk} {s : W4} {k : Int} {nx : AV} {next : List Nat} {p : Px} {st : List NS} (h : PS fl pb sb hp p st) (hx : NxR nx next) (hl : st.length < 1000000) :
    ∃ hp' sb', evI (cfg m) fl 25 [.ptr pb 0, .int .i64 k, .agg s.av, nx] hp = some (natAV st.length, hp') ∧ PS fl pb sb' hp' p (st ++ [⟨k, s, next⟩]) ∧ FrX pb sb sb' hp hp' := by
  obtain ⟨rows, h1, h2, h3, h4, h5, h6⟩ := h
  have b1 := blk_lt h1
  have b2 := blk_lt h2
  have hv : (.int .i64 (((st.length + 1 : Nat) : Int) - 1) : AV) = natAV st.length := by
    show AV.int .i64 _ = AV.int .i64 _
    congr 1; omega
  have fin : ∀ {nx : AV}, NxR nx next → PS fl pb hp.length (setAt (setAt hp sb .dead) pb (.cells (p.B hp.length (st.length + 1))) ++ [.cells (flat (rows ++ [.agg (nsAV ⟨k, s, next⟩ nx)]))]) p (st ++ [⟨k, s, next⟩]) := fun {nx} hx => by
    refine ⟨rows ++ [.agg (nsAV ⟨k, s, next⟩ nx)], ?_, ?_, h3.app ⟨nx, rfl, hx⟩, by omega, h5, by omega⟩
    · rw [List.length_append]
      exact blk_app (blk_set (by rw [setAt_length]; exact b1))
    · exact blk_last' (by rw [setAt_length, setAt_length])
  have fr : ∀ {z : Blk}, FrX pb sb hp.length hp (setAt (setAt hp sb .dead) pb (.cells (p.B hp.length (st.length + 1))) ++ [z]) := fun {z} => by
    refine ⟨by simp [setAt_length], .inr (Nat.le_refl _), fun c hc c1 c2 => ?_⟩
    rw [getAt_app_lt (by rw [setAt_length, setAt_length]; exact hc), getAt_set_ne c1, getAt_set_ne c2]
  have hx0 := hx
  rcases hx with ⟨⟨rfl, e⟩ | ⟨o, rfl⟩, _⟩
  · refine ⟨_, hp.length, ?_, fin hx0, fr⟩
    rw [add_nil h1 h2 h3.agg h3.1.symm (by rw [h3.1]; exact hl) h4 h5 h6, hv]
  · refine ⟨_, hp.length, ?_, fin hx0, fr⟩
    rw [add_lit h1 h2 h3.agg h3.1.symm (by rw [h3.1]; exact hl) h4 h5 h6, hv]
end Go.Proofs.YtanopbolgfcojaaGreatDoor.E.SZ.N
namespace Go.Proofs.YtanopbolgfcojaaGreatDoor.E.SZ.N
open Go Go.Proofs E E.R
theorem add_set {m:Int} {fl pb sb q:Nat} {hp:List Blk} {a b c d:BitVec 64} {k:Int} {p:Px} {st:List NS} (h:PS fl pb sb hp p st) (hl:st.length < 1000000) :
  ∃ hp' sb',evI (cfg m) fl 25 [.ptr pb 0, .int .i64 k, .agg [wAV a,wAV b,wAV c,wAV d], .lit 1 .exact [.int .i64 (q:Int)]] hp=some (natAV st.length,hp')∧PS fl pb sb' hp' p (st++[⟨k,⟨a,b,c,d⟩,[q]⟩])∧FrX pb sb sb' hp hp' :=
 add_ps h (s:=⟨a,b,c,d⟩) (next:=[q]) ⟨.lit _ _ _,fun _=>rfl⟩ hl
theorem add_z {m:Int} {fl pb sb q:Nat} {hp:List Blk} {k:Int} {p:Px} {st:List NS} (h:PS fl pb sb hp p st) (hl:st.length < 1000000) :
  ∃ hp' sb',evI (cfg m) fl 25 [.ptr pb 0, .int .i64 k, .agg [.int .u64 0, .int .u64 0, .int .u64 0, .int .u64 0], .lit 1 .exact [.int .i64 (q:Int)]] hp=some (natAV st.length,hp')∧PS fl pb sb' hp' p (st++[⟨k,W4.zero,[q]⟩])∧FrX pb sb sb' hp hp' :=
 add_ps h (s:=W4.zero) (next:=[q]) ⟨.lit _ _ _,fun _=>rfl⟩ hl
theorem bd_0 {m:Int} {fl pb q:Nat} {hp:List Blk} {n:Node} {ks:AV} {z:Int} (hs:∀ fl h,evI (cfg m) fl 22 [nAV n ks] h=some (.int .i64 z,h)) (hz:z=0):evI (cfg m) fl 24 [.ptr pb 0,nAV n ks, .int .i64 (q:Int)] hp=some (.int .i64 (q:Int),hp):=by
 exact evX (AI q) (hp) [.c 1 1 (hs (fl) (hp)), .b 1 2 (beq_iff_eq.2 (hz))] (by kernel_rfl) (tlK (by kernel_rfl) rfl) rfl
theorem bd_1 {m:Int} {fl pb sb q:Nat} {hp:List Blk} {n:Node} {ks:AV} {z:Int} {p:Px} {st:List NS} (hps:PS fl pb sb hp p st) (hs:∀ fl h,evI (cfg m) fl 22 [nAV n ks] h=some (.int .i64 z,h)) (hz:z≠0) (hk:n.kind=1) (hl:st.length < 1000000):∃ hp' sb',evI (cfg m) fl 24 [.ptr pb 0,nAV n ks, .int .i64 (q:Int)] hp=some (natAV st.length,hp')∧PS fl pb sb' hp' p (st++[⟨1,⟨n.set.a,n.set.b,n.set.c,n.set.d⟩,[q]⟩])∧FrX pb sb sb' hp hp':=by
 obtain ⟨hp'1,sb'2,e3,h4,h5⟩:=(add_set (m:=m) (q:=q) (a:=n.set.a) (b:=n.set.b) (c:=n.set.c) (d:=n.set.d) (k:=1) hps hl)
 exact ⟨hp'1,_,evX (AI st.length) (hp'1) [.c 1 1 (hs (fl) (hp)), .b 1 2 (beq_false_of_ne (hz)), .b 4 0 (beq_iff_eq.2 (hk)), .c 5 7 e3] (by kernel_rfl) (tlK (by kernel_rfl) rfl) rfl,(by assumption),(by assumption)⟩
theorem bd_2 {m:Int} {fl pb sb q:Nat} {hp:List Blk} {n:Node} {ks:AV} {z:Int} {p:Px} {st:List NS} (hps:PS fl pb sb hp p st) (hs:∀ fl h,evI (cfg m) fl 22 [nAV n ks] h=some (.int .i64 z,h)) (hz:z≠0) (hk:n.kind=2) (hl:st.length < 1000000):∃ hp' sb',evI (cfg m) fl 24 [.ptr pb 0,nAV n ks, .int .i64 (q:Int)] hp=some (natAV st.length,hp')∧PS fl pb sb' hp' p (st++[⟨2,W4.zero,[q]⟩])∧FrX pb sb sb' hp hp':=by
 obtain ⟨hp'1,sb'2,e3,h4,h5⟩:=(add_z (m:=m) (q:=q) (k:=2) hps hl)
 exact ⟨hp'1,_,evX (AI st.length) (hp'1) [.c 1 1 (hs (fl) (hp)), .b 1 2 (beq_false_of_ne (hz)), .b 4 0 (beq_false_of_ne ((show ¬n.kind=1 from (by omega)))), .b 6 0 (beq_iff_eq.2 (hk)), .c 7 6 e3] (by kernel_rfl) (tlK (by kernel_rfl) rfl) rfl,(by assumption),(by assumption)⟩
theorem bd_3 {m:Int} {fl pb sb q:Nat} {hp:List Blk} {n:Node} {ks:AV} {z:Int} {p:Px} {st:List NS} (hps:PS fl pb sb hp p st) (hs:∀ fl h,evI (cfg m) fl 22 [nAV n ks] h=some (.int .i64 z,h)) (hz:z≠0) (hk:n.kind=3) (hl:st.length < 1000000):∃ hp' sb',evI (cfg m) fl 24 [.ptr pb 0,nAV n ks, .int .i64 (q:Int)] hp=some (natAV st.length,hp')∧PS fl pb sb' hp' p (st++[⟨3,W4.zero,[q]⟩])∧FrX pb sb sb' hp hp':=by
 obtain ⟨hp'1,sb'2,e3,h4,h5⟩:=(add_z (m:=m) (q:=q) (k:=3) hps hl)
 exact ⟨hp'1,_,evX (AI st.length) (hp'1) [.c 1 1 (hs (fl) (hp)), .b 1 2 (beq_false_of_ne (hz)), .b 4 0 (beq_false_of_ne ((show ¬n.kind=1 from (by omega)))), .b 6 0 (beq_false_of_ne ((show ¬n.kind=2 from (by omega)))), .b 8 0 (beq_iff_eq.2 (hk)), .c 9 6 e3] (by kernel_rfl) (tlK (by kernel_rfl) rfl) rfl,(by assumption),(by assumption)⟩
abbrev nCells (n:Node) (ks:AV):List AV:=[AI n.kind,wAV n.set.a,wAV n.set.b,wAV n.set.c,wAV n.set.d,AI n.mn,AI n.mx,ks]
abbrev catSt (pb:Nat) (n:Node) (ks:AV) (q:Nat) (i:Int):List TV:=[.v (.ptr pb 0),J, .v (AI q),J, .bx (nCells n ks),J,J, .v (AI i)]++List.replicate 85 J
abbrev catEnd (q:Nat):List TV:=[J,J, .v (AI q)]++List.replicate 90 J
theorem cat_x {m:Int} {fl pb q:Nat} {hp:List Blk} {n:Node} {ks:AV} {i:Int} (hi:i < 0):LoopI (cfg m) fl 24 (bodyAt (cfg m) 24 12) 12 ⟨catSt pb n ks q i,hp⟩ (.exit 1) ⟨catEnd q,hp⟩:=by
 exact loopEndC (.exit 1) (St.mk ([J,J,TV.v (AI q)]++Jn 90) hp) [.b 12 1 (decide_eq_false ((show ¬i≥0 from (by omega))))] (by kernel_rfl) (fun h=>by cases h) rfl
theorem cat_l {m:Int} {fl pb q q2 qe:Nat} {hp h2 he:List Blk} {n k:Node} {kk:AV} {ks:AV} {vs:List AV} {i:Nat} (hx:IsSl 8 ks vs) (hv:vs[i]?=some (nAV k kk)) (hi:i < vs.length) (hl:vs.length < 1000000) (hb:evI (cfg m) fl 24 [.ptr pb 0,nAV k kk, .int .i64 (q:Int)] hp=some (natAV q2,h2)) (hc:LoopI (cfg m) fl 24 (bodyAt (cfg m) 24 12) 12 ⟨catSt pb n ks q2 ((i:Int) - 1),h2⟩ (.exit 1) ⟨catEnd qe,he⟩):LoopI (cfg m) fl 24 (bodyAt (cfg m) 24 12) 12 ⟨catSt pb n ks q i,hp⟩ (.exit 1) ⟨catEnd qe,he⟩:=by
 exact loopStepC (St.mk [TV.v (AV.ptr pb 0),J,TV.v (AI q2),J,TV.bx [AI n.kind,AW n.set.a.toNat,AW n.set.b.toNat,AW n.set.c.toNat,AW n.set.d.toNat,AI n.mn,AI n.mx,ks],J,J,TV.v (AI ((↑i:Int) - 1)),J,J,J,J,J,J,J,J,J,J,J,J,J,J,J,J,J,J,J,J,J,J,J,J,J,J,J,J,J,J,J,J,J,J,J,J,J,J,J,J,J,J,J,J,J,J,J,J,J,J,J,J,J,J,J,J,J,J,J,J,J,J,J,J,J,J,J,J,J,J,J,J,J,J,J,J,J,J,J,J,J,J,J,J,J] h2) [.b 12 1 (decide_eq_true ((show (↑i:Int)≥0 from (by omega)))), .a 14 4 (indexAddr_sl (C:=cfg m) (t:=41) (n:=(↑i:Int)) hx (by kernel_rfl) (by omega) hv), .c 14 7 hb, .w 13 1 IntKind.i64 ((↑i:Int) - 1) (wrap_i64' (by omega))] (by kernel_rfl) hc rfl
abbrev altSt (pb:Nat) (q:Nat) (x ks:AV) (len i:Nat):List TV:=[.v (.ptr pb 0),J, .v (AI q),J,J,J,J,J, .v x]++List.replicate 57 J++[.v ks, .v (AI len), .v (AI i)]++List.replicate 24 J
abbrev altEnd (pb:Nat) (x:AV):List TV:=[.v (.ptr pb 0),J,J,J,J,J,J,J, .v x]++List.replicate 84 J
theorem alt_x {m:Int} {fl pb q len i:Nat} {hp:List Blk} {x ks:AV} (hi:len≤i):LoopI (cfg m) fl 24 (bodyAt (cfg m) 24 18) 18 ⟨altSt pb q x ks len i,hp⟩ (.exit 3) ⟨altEnd pb x,hp⟩:=by
 exact loopEndC (.exit 3) (St.mk ([TV.v (AV.ptr pb 0),J,J,J,J,J,J,J,TV.v x]++Jn 84) hp) [.b 18 0 (decide_eq_false ((show ¬(↑i:Int) < (↑len:Int) from (by omega))))] (by kernel_rfl) (fun h=>by cases h) rfl
theorem alt_l {m:Int} {fl pb q q2 len i:Nat} {hp h2 h3 he:List Blk} {k:Node} {kk x x2 xe ks:AV} {vs:List AV} (hx:IsSl 8 ks vs) (hv:vs[i]?=some (nAV k kk)) (hi:i < vs.length) (hl:vs.length < 1000000) (hn:len=vs.length) (hb:evI (cfg m) fl 24 [.ptr pb 0,nAV k kk, .int .i64 (q:Int)] hp=some (natAV q2,h2)) (hap:∀ ts,builtinE (cfg m) fl false ⟨ts,h2⟩ .append [67,67] [x, .lit 1 .exact [natAV q2]]=some ⟨.v x2,ts,h3, .fw⟩) (hc:LoopI (cfg m) fl 24 (bodyAt (cfg m) 24 18) 18 ⟨altSt pb q x2 ks len (i + 1),h3⟩ (.exit 3) ⟨altEnd pb xe,he⟩):LoopI (cfg m) fl 24 (bodyAt (cfg m) 24 18) 18 ⟨altSt pb q x ks len i,hp⟩ (.exit 3) ⟨altEnd pb xe,he⟩:=by
 exact loopStepC (St.mk [TV.v (AV.ptr pb 0),J,TV.v (AI q),J,J,J,J,J,TV.v x2,J,J,J,J,J,J,J,J,J,J,J,J,J,J,J,J,J,J,J,J,J,J,J,J,J,J,J,J,J,J,J,J,J,J,J,J,J,J,J,J,J,J,J,J,J,J,J,J,J,J,J,J,J,J,J,J,J,TV.v ks,TV.v (AI len),TV.v (AI ((↑i:Int) + 1)),J,J,J,J,J,J,J,J,J,J,J,J,J,J,J,J,J,J,J,J,J,J,J,J] h3) [.b 18 0 (decide_eq_true ((show (↑i:Int) < (↑len:Int) from (by omega)))), .a 19 0 (indexAddr_sl (C:=cfg m) (t:=41) (n:=(↑i:Int)) hx (by kernel_rfl) (by omega) hv), .c 20 4 hb, .m 20 6 hap, .w 21 0 IntKind.i64 ((↑i:Int) + 1) (wrap_i64' (by omega))] (by kernel_rfl) hc rfl
theorem bd_4 {m:Int} {fl pb q qe:Nat} {hp he:List Blk} {n:Node} {ks:AV} {vs:List AV} {z:Int} (hx:IsSl 8 ks vs) (hl:vs.length < 1000000) (hs:∀ fl h,evI (cfg m) fl 22 [nAV n ks] h=some (.int .i64 z,h)) (hz:z≠0) (hk:n.kind=4) (hc:LoopI (cfg m) fl 24 (bodyAt (cfg m) 24 12) 12 ⟨catSt pb n ks q ((vs.length:Int) - 1),hp⟩ (.exit 1) ⟨catEnd qe,he⟩):evI (cfg m) fl 24 [.ptr pb 0,nAV n ks, .int .i64 (q:Int)] hp=some (natAV qe,he):=by
 exact evX (AI qe) (he) [.c 1 1 (hs (fl) (hp)), .b 1 2 (beq_false_of_ne (hz)), .b 4 0 (beq_false_of_ne ((show ¬n.kind=1 from (by omega)))), .b 6 0 (beq_false_of_ne ((show ¬n.kind=2 from (by omega)))), .b 8 0 (beq_false_of_ne ((show ¬n.kind=3 from (by omega)))), .b 10 0 (beq_iff_eq.2 (hk)), .m 11 2 (len_sl (C:=cfg m) (t:=41) (ts':=[]) (fl:=fl) (ar:=false) (hp:=hp) hx (by kernel_rfl)), .w 11 3 IntKind.i64 ((↑vs.length:Int) - 1) (wrap_i64' (by omega)), .l 12 hc] (by kernel_rfl) (tlK (by kernel_rfl) rfl) rfl
theorem bd_5 {m:Int} {fl pb q c:Nat} {hp he h5:List Blk} {n:Node} {ks xe:AV} {vs:List AV} {z:Int} (hx:IsSl 8 ks vs) (hl:vs.length < 1000000) (hs:∀ fl h,evI (cfg m) fl 22 [nAV n ks] h=some (.int .i64 z,h)) (hz:z≠0) (hk:n.kind=5) (hc:LoopI (cfg m) fl 24 (bodyAt (cfg m) 24 18) 18 ⟨altSt pb q .nilS ks vs.length 0,hp⟩ (.exit 3) ⟨altEnd pb xe,he⟩) (ha:evI (cfg m) fl 25 [.ptr pb 0, .int .i64 4, .agg [.int .u64 0, .int .u64 0, .int .u64 0, .int .u64 0],xe] he=some (natAV c,h5)):evI (cfg m) fl 24 [.ptr pb 0,nAV n ks, .int .i64 (q:Int)] hp=some (natAV c,h5):=by
 exact evX (AI c) (h5) [.c 1 1 (hs (fl) (hp)), .b 1 2 (beq_false_of_ne (hz)), .b 4 0 (beq_false_of_ne ((show ¬n.kind=1 from (by omega)))), .b 6 0 (beq_false_of_ne ((show ¬n.kind=2 from (by omega)))), .b 8 0 (beq_false_of_ne ((show ¬n.kind=3 from (by omega)))), .b 10 0 (beq_false_of_ne ((show ¬n.kind=4 from (by omega)))), .b 15 0 (beq_iff_eq.2 (hk)), .m 17 2 (len_sl (C:=cfg m) (t:=41) (ts':=[]) (fl:=fl) (ar:=false) (hp:=hp) hx (by kernel_rfl)), .l 18 hc, .c 22 5 ha] (by kernel_rfl) (tlK (by kernel_rfl) rfl) rfl
theorem bd_6 {m:Int} {fl pb q c:Nat} {hp h5:List Blk} {n:Node} {ks:AV} {z:Int} (hs:∀ fl h,evI (cfg m) fl 22 [nAV n ks] h=some (.int .i64 z,h)) (hz:z≠0) (hk:n.kind=6) (ha:evI (cfg m) fl 35 [.ptr pb 0,nAV n ks, .int .i64 (q:Int)] hp=some (natAV c,h5)):evI (cfg m) fl 24 [.ptr pb 0,nAV n ks, .int .i64 (q:Int)] hp=some (natAV c,h5):=by
 exact evX (AI c) (h5) [.c 1 1 (hs (fl) (hp)), .b 1 2 (beq_false_of_ne (hz)), .b 4 0 (beq_false_of_ne ((show ¬n.kind=1 from (by omega)))), .b 6 0 (beq_false_of_ne ((show ¬n.kind=2 from (by omega)))), .b 8 0 (beq_false_of_ne ((show ¬n.kind=3 from (by omega)))), .b 10 0 (beq_false_of_ne ((show ¬n.kind=4 from (by omega)))), .b 15 0 (beq_false_of_ne ((show ¬n.kind=5 from (by omega)))), .b 23 0 (beq_iff_eq.2 (hk)), .c 24 3 ha] (by kernel_rfl) (tlK (by kernel_rfl) rfl) rfl
theorem flat_get5 {c1 c2 c3 c4 c5 nx:AV}:∀ {rows:List AV} (j:Nat),AggN 6 rows→rows[j]?=some (.agg [c1,c2,c3,c4,c5,nx])→getAt (flat rows) (j * 6 + 5)=some nx
 | [],_,_,h=>by simp at h
 | v::vs,0,_,h=>by
  simp at h;subst h;rfl
 | v::vs,j + 1,ha,h=>by
  obtain ⟨d,rfl,hd⟩:=ha v (by simp)
  have ih:=flat_get5 (rows:=vs) j (fun w hw=>ha w (by simp [hw])) (by simpa using h)
  rw [getAt_eq] at ih ⊢
  show (d++flat vs)[_]?=_
  rw [List.getElem?_append_right (by omega),hd]
  rw [show (j + 1) * 6 + 5 - 6=j * 6 + 5 by omega];exact ih
theorem flat_set5 {c1 c2 c3 c4 c5 nx x:AV}:∀ {rows:List AV} (j:Nat),AggN 6 rows→rows[j]?=some (.agg [c1,c2,c3,c4,c5,nx])→splice (flat rows) (j * 6 + 5) [x]=flat (rows.set j (.agg [c1,c2,c3,c4,c5,x]))
 | [],_,_,h=>by simp at h
 | v::vs,0,_,h=>by
  simp at h;subst h;rfl
 | v::vs,j + 1,ha,h=>by
  obtain ⟨d,rfl,hd⟩:=ha v (by simp)
  have ih:=flat_set5 (rows:=vs) (x:=x) j (fun w hw=>ha w (by simp [hw])) (by simpa using h)
  match d,hd with
  | [d1,d2,d3,d4,d5,d6],_ =>
   show splice (d1::d2::d3::d4::d5::d6::flat vs) _ _=d1::d2::d3::d4::d5::d6::flat (vs.set j _)
   rw [show (j + 1) * 6 + 5=(j * 6 + 5) + 6 by omega]
   simp only [splice,ih]
theorem load_nx {m:Int} {sb lp:Nat} {hp:List Blk} {rows:List AV} {c1 c2 c3 c4 c5 nx:AV} (h:blkCells hp sb=some (flat rows)) (hr:rows[lp]?=some (.agg [c1,c2,c3,c4,c5,nx])) (ha:AggN 6 rows):∀ ts,loadAt (cfg m) ⟨ts,hp⟩ 67 (.v (.ptr sb (lp * 6 + 5)))=some ⟨.v nx,ts,hp, .hb sb⟩:=by
 have e:(cfg m).ty 67=some ⟨.slice 3,1,24,[.nilS],false⟩:=by kernel_rfl
 refine load_ok h ?_
 unfold ldC
 rw [e]
 exact flat_get5 lp ha hr
theorem store_nx {m:Int} {fl sb lp a b:Nat} {hp:List Blk} {rows:List AV} {c1 c2 c3 c4 c5 nx:AV} {o:Own} (h:blkCells hp sb=some (flat rows)) (hr:rows[lp]?=some (.agg [c1,c2,c3,c4,c5,nx])) (ha:AggN 6 rows) (hf:fl≤sb):∀ ts,storeAt (cfg m) fl ⟨ts,hp⟩ 67 (.v (.ptr sb (lp * 6 + 5))) (.lit 1 o [natAV a,natAV b])=some ⟨.sk,ts,setAt hp sb (.cells (flat (rows.set lp (.agg [c1,c2,c3,c4,c5, .lit 1 o [natAV a,natAV b]])))), .hw⟩:=by
 have e:(cfg m).ty 67=some ⟨.slice 3,1,24,[.nilS],false⟩:=by kernel_rfl
 refine store_ok h ?_ hf rfl
 unfold stC
 rw [e]
 have hl:lp < rows.length:=(List.getElem?_eq_some_iff.1 hr).1
 have hd:decide (lp * 6 + 5 + 1≤(flat rows).length)=true:=decide_eq_true (by rw [E.flat_len ha];omega)
 show (bif (true&&true)&&decide (lp * 6 + 5 + 1≤(flat rows).length) then some (splice (flat rows) (lp * 6 + 5) [.lit 1 o [natAV a,natAV b]]) else none)=_
 rw [hd,flat_set5 lp ha hr];rfl
end Go.Proofs.YtanopbolgfcojaaGreatDoor.E.SZ.N
