/- Steps of the seat's proofs: an evaluator of the program's code, its soundness, and what the functions come to. -/
import Derived.Test.YtanopbolgfcojaaGreatDoorEai
import Derived.KernelRfl
set_option linter.unusedSimpArgs false
set_option linter.unusedVariables false
namespace Go.Proofs.YtanopbolgfcojaaGreatDoor.E.SZ
open Go Go.Proofs E E.R E.SZ.N
def mS (st:List NS) (first:Nat) (w:Bool) (len:Nat):List UInt8→Nat→List Bool × List Nat→Bool
 | [],pl,p=>if (atF st pl len (st.length + 1) 0 (mPut first w pl p.1 p.2).1 (mPut first w pl p.1 p.2).2 false).2.2=true∧(w=false∨pl=len) then true else false
 | c::cs,pl,p=>if (atF st pl len (st.length + 1) 0 (mPut first w pl p.1 p.2).1 (mPut first w pl p.1 p.2).2 false).2.2=true∧(w=false∨pl=len) then true
  else mS st first w len cs (pl + 1) (stepF st c (atF st pl len (st.length + 1) 0 (mPut first w pl p.1 p.2).1 (mPut first w pl p.1 p.2).2 false).2.1 (List.replicate st.length false) [])
theorem mS_eq {st:List NS} {first:Nat} {w:Bool} {len:Nat}:∀ (cs:List UInt8) (pl:Nat) (ms:List Bool) (l:List Nat),mF st first w len cs pl ms l=mS st first w len cs pl (ms,l)
 | [],pl,ms,l=>by rw [mF,mG];rfl
 | c::cs,pl,ms,l=>by
  rw [mF,mG,mS]
  dsimp only
  split
  ·rfl
  ·exact mS_eq cs _ _ _
def matchS (st:List NS) (first:Nat) (w:Bool) (s:List UInt8):Bool:=mS st first w s.length s 0 (List.replicate st.length false,[])
theorem matchS_eq {st:List NS} {first:Nat} {w:Bool} {s:List UInt8}:matchF st first w s=matchS st first w s:=mS_eq _ _ _ _
abbrev exT:List UInt8:=[97,40,98,124,99,41,42,100]
theorem ex_p:(parseM exT).2=(8,0):=by kernel_rfl
theorem ex_q:(parseM [97,41]).2=(1,2):=by kernel_rfl
theorem ex_sz:(parseM exT).1.size=6:=by kernel_rfl
theorem ex_put:(parseM exT).1.put=exT:=by kernel_rfl
theorem ex_w1:matchF (progF 772 (parseM exT).1).2 (progF 772 (parseM exT).1).1 true [97,98,99,99,98,100]=true:=by rw [matchS_eq];kernel_rfl
theorem ex_w2:matchF (progF 772 (parseM exT).1).2 (progF 772 (parseM exT).1).1 true [97,98,99,99,98]=false:=by rw [matchS_eq];kernel_rfl
theorem ex_w3:matchF (progF 772 (parseM exT).1).2 (progF 772 (parseM exT).1).1 false [120,120,97,100,121,121]=true:=by rw [matchS_eq];kernel_rfl
theorem ex_w4:matchF (progF 772 (parseM exT).1).2 (progF 772 (parseM exT).1).1 false [97,98,99]=false:=by rw [matchS_eq];kernel_rfl
theorem ex0 {m:Int}:evI (cfg m) 0 9 [] []=some (.bool true,[]):=by
 obtain ⟨g1,of1,p1,c1,_⟩:=of_M (m:=m) (fl:=0) (hp:=[]) (t:=exT) (n:=(parseM exT).1) (Prod.ext rfl ex_p) rfl (Nat.zero_le _)
 have of2:=of_none (m:=m) (fl:=0) (hp:=g1) (t:=[97,41]) (n:=(parseM [97,41]).1) (q:=1) (e:=2) (Prod.ext rfl ex_q) (by decide) (by decide) c1
 have sz:=size_prg (m:=m) (fl:=0) p1
 have tx:=text_prg (m:=m) (fl:=0) p1
 rw [ex_sz] at sz
 rw [ex_put] at tx
 obtain ⟨f,l,h2,h3,h4⟩:=p1
 have h3:(parseM exT).1.lw < 100000:=by omega
 have w1:=whole_run (m:=m) (fl:=0) (s:=[97,98,99,99,98,100]) l h2 h3 h4 (by decide)
 have w2:=whole_run (m:=m) (fl:=0) (s:=[97,98,99,99,98]) l h2 h3 h4 (by decide)
 have w3:=find_run (m:=m) (fl:=0) (s:=[120,120,97,100,121,121]) l h2 h3 h4 (by decide)
 have w4:=find_run (m:=m) (fl:=0) (s:=[97,98,99]) l h2 h3 h4 (by decide)
 rw [ex_w1] at w1
 rw [ex_w2] at w2
 rw [ex_w3] at w3
 rw [ex_w4] at w4
 exact hx_ok of1 of2 w1 w2 w3 w4 sz tx
end Go.Proofs.YtanopbolgfcojaaGreatDoor.E.SZ
namespace Go.Proofs.YtanopbolgfcojaaGreatDoor.E.SZ.N
open Go Go.Proofs E E.R
section
variable {s:List UInt8}
theorem LN_oneB (c:UInt8):LN s (oneB c)=fun i j=>s[i]?=some c∧j=i + 1:=by
 unfold oneB
 rw [LN_one (with_ne (Nat.le_refl _))]
 funext i j
 apply propext
 constructor
 ·rintro ⟨d,h1,h2,h3⟩
  rw [single_has c _ d.toNat_lt] at h2
  have:=UInt8.toNat_inj.1 (of_decide_eq_true h2)
  subst this
  exact ⟨h1,h3⟩
 ·rintro ⟨h1,h3⟩
  exact ⟨c,h1,by rw [single_has c _ c.toNat_lt];exact decide_eq_true rfl,h3⟩
def At (s a:List UInt8) (i:Nat):Prop:=(s.drop i).take a.length=a
instance decAt (s a:List UInt8) (i:Nat):Decidable (At s a i):=inferInstanceAs (Decidable ((s.drop i).take a.length=a))
theorem At.nil (s:List UInt8) (i:Nat):At s [] i:=rfl
theorem At_cons {c:UInt8} {a:List UInt8} {i:Nat}:At s (c::a) i↔s[i]?=some c∧At s a (i + 1):=by
 unfold At
 rw [← List.drop_drop]
 have h:s[i]?=(s.drop i)[0]?:=by rw [List.getElem?_drop];rfl
 rw [h]
 cases s.drop i with
 | nil=>simp
 | cons d t=>simp
theorem At.le {a:List UInt8} {i:Nat} (h:At s a i):a.length≤s.length - i:=by
 have:=congrArg List.length h
 rw [List.length_take,List.length_drop] at this
 omega
theorem CatL_ones:∀ (a:List UInt8) (i j:Nat),CatL (LN s) (a.map oneB) i j↔At s a i∧j=i + a.length
 | [],i,j=>by
  show i=j↔_
  simp [At.nil,eq_comm]
 | c::a,i,j=>by
  show (∃ m,LN s (oneB c) i m∧CatL (LN s) (a.map oneB) m j)↔_
  rw [LN_oneB,At_cons]
  constructor
  ·rintro ⟨m,⟨h1,rfl⟩,h2⟩
   obtain ⟨h3,h4⟩:=(CatL_ones a _ _).1 h2
   exact ⟨⟨h1,h3⟩,by simp only [List.length_cons];omega⟩
  ·rintro ⟨⟨h1,h2⟩,h3⟩
   exact ⟨i + 1,⟨h1,rfl⟩,(CatL_ones a _ _).2 ⟨h2,by simp only [List.length_cons] at h3;omega⟩⟩
theorem ones_norm {a:List UInt8}:∀ n ∈ a.map oneB,NormE n:=fun n hn=>by
 obtain ⟨c,_,rfl⟩:=List.mem_map.1 hn
 exact oneB_norm c
theorem LN_plain (a:List UInt8):LN s (plainN a)=fun i j=>At s a i∧j=i + a.length:=by
 funext i j
 unfold plainN
 rw [LN_catF ones_norm]
 exact propext (CatL_ones a i j)
theorem At_zero {a:List UInt8}:At s a 0∧s.length=0 + a.length↔a=s:=by
 unfold At
 constructor
 ·rintro ⟨h1,h2⟩
  rw [List.drop_zero,List.take_of_length_le (by omega)] at h1
  exact h1.symm
 ·rintro rfl
  exact ⟨by simp,by omega⟩
theorem At_mid (b a c:List UInt8):At (b++a++c) a b.length:=by
 unfold At
 simp
theorem find_plain {a:List UInt8}:(∃ i j,i≤s.length∧LN s (plainN a) i j)↔∃ i,i + a.length≤s.length∧At s a i:=by
 rw [LN_plain]
 constructor
 ·rintro ⟨i,j,h1,h2,h3⟩
  have:=h2.le
  exact ⟨i,by omega,h2⟩
 ·rintro ⟨i,h1,h2⟩
  exact ⟨i,i + a.length,by omega,h2,rfl⟩
end
end Go.Proofs.YtanopbolgfcojaaGreatDoor.E.SZ.N
namespace Go.Proofs.YtanopbolgfcojaaGreatDoor.E.SZ
open Go
theorem rngU8 {a:Int} (h:(Lit.int .u8 a).wf=true):0≤a∧a≤255:=by
 simp [Lit.wf,IntKind.min,IntKind.max,IntKind.signed,IntKind.bits] at h
 omega
end Go.Proofs.YtanopbolgfcojaaGreatDoor.E.SZ
namespace Go.Proofs.YtanopbolgfcojaaGreatDoor.E.SZ
open Go Go.Proofs E E.R
theorem u8_ofI {a:Int} (h:0≤a∧a≤255):∃ k:UInt8,((k.toNat:Nat):Int)=a:=by
 refine ⟨UInt8.ofNat a.toNat, ?_⟩
 rw [UInt8.toNat_ofNat_of_lt' (by show a.toNat < 256;omega)]
 omega
theorem bytes_of {x:AV} {m:Int} (h:Sh (cfg m) 6 22 x):∃ bs:List UInt8,IsSl 1 x (bsV bs):=by
 have e1:(cfg m).ty 22=some ⟨.slice 5,1,24,[.nilS],false⟩:=by kernel_rfl
 have e2:(cfg m).ty 5=some ⟨.int .u8,1,1,[.int .u8 0],true⟩:=by kernel_rfl
 unfold Sh at h
 rw [e1] at h
 rcases h with rfl | ⟨xs,rfl,hlen,hx⟩
 ·exact ⟨[], .nil _⟩
 ·have:∃ bs:List UInt8,xs=bsV bs:=by
   clear e1 hlen
   induction xs with
   | nil=>exact ⟨[],rfl⟩
   | cons y ys ih =>
    obtain ⟨bs,hb⟩:=ih fun z hz=>hx z (by simp [hz])
    have hy:=hx y (by simp)
    unfold Sh at hy
    rw [e2] at hy
    obtain ⟨n,rfl,hw⟩:=hy
    obtain ⟨k,hk⟩:=u8_ofI (rngU8 hw)
    exact ⟨k::bs,by simp [bsV,hb,hk]⟩
  obtain ⟨bs,rfl⟩:=this
  have hs:sizeT (cfg m) 5=1:=by unfold sizeT;rw [e2]
  rw [hs]
  exact ⟨bs, .lit _ _ _⟩
theorem app_u8 {C:Cfg} {fl:Nat} {hp:List Blk} {x y:AV} {vs ws:List AV} {t:TypeId} (h:Gr fl 1 hp x vs) (hy:elems hp 1 y=some ws) (ht:elT C t 1 1=true) (hw:ws≠[]) (hl:(vs.length + ws.length) * 1≤35184372088832) (hf:fl≤hp.length) :
  ∃ x' hp',(∀ ts,builtinE C fl false ⟨ts,hp⟩ .append [t,t] [x,y]=some ⟨.v x',ts,hp',bif isArr y then .hw else .fw⟩)∧Gr fl 1 hp' x' (vs++ws)∧FrC [] hp hp':=append_gr h hy ht hw hl hf
abbrev leSt (l o:AV) (i:Nat):List TV:=[.v l,J,J, .v o, .v (AI i)]++List.replicate 21 J
abbrev leEnd (o:AV):List TV:=[J,J,J, .v o]++List.replicate 22 J
theorem le_i0 {m:Int} {fl i:Nat} {hp:List Blk} {l o:AV} {bs s:List UInt8} {c:UInt8} (hl:IsSl 1 l (bsV bs)) (hc:(bsV bs)[i]?=some (.int .u8 (c.toNat:Int))) (hi:i < bs.length) (hi2:i < 12) (ho:Gr fl 1 hp o (bsV s)) (hlen:((bsV s).length + [AV.int .u8 97].length) * 1≤35184372088832) (hf:fl≤hp.length) (hj:Int.tmod (c.toNat:Int) 2=0):∃ hp' o',LoopS (cfg m) fl 15 (bodyAt (cfg m) 15 3) 3 ⟨leSt l o i,hp⟩ ⟨leSt l o' (i + 1),hp'⟩∧Gr fl 1 hp' o' (bsV s++[AV.int .u8 97])∧FrC [] hp hp':=by
 obtain ⟨x'1,hp'2,e3,h4,h5⟩:=(app_u8 (C:=cfg m) (y:=AV.lit 1 Own.exact [AU 97]) (t:=22) ho (by kernel_rfl) (by kernel_rfl) (by simp_all;done) hlen hf)
 exact ⟨hp'2,_,loopStepS (St.mk [TV.v l,J,J,TV.v x'1,TV.v (AI ((↑i:Int) + 1)),J,J,J,J,J,J,J,J,J,J,J,J,J,J,J,J,J,J,J,J,J] hp'2) [.m 3 2 (len_sl (C:=cfg m) (t:=22) (ts':=[]) (fl:=fl) (ar:=false) (hp:=hp) hl (by kernel_rfl)), .b 3 3 (decide_eq_true ((show (↑i:Int) < (↑(bsV bs).length:Int) from (by have:=UInt8.toNat_lt (c);simp only [setAt_length,List.length_append,List.length_cons,List.length_nil,List.length_map] at *;omega)))), .b 3 6 (decide_eq_true ((show (↑i:Int) < 12 from (by omega)))), .a 5 3 (indexAddr_sl (C:=cfg m) (t:=22) (n:=(↑i:Int)) hl (by kernel_rfl) (by omega) hc), .w 5 5 IntKind.u8 (0) hj, .m 5 8 e3, .w 4 1 IntKind.i64 ((↑i:Int) + 1) (wrap_i64' (by omega))] (by kernel_rfl) rfl,by assumption,by assumption⟩
theorem le_i1 {m:Int} {fl i:Nat} {hp:List Blk} {l o:AV} {bs s:List UInt8} {c:UInt8} (hl:IsSl 1 l (bsV bs)) (hc:(bsV bs)[i]?=some (.int .u8 (c.toNat:Int))) (hi:i < bs.length) (hi2:i < 12) (ho:Gr fl 1 hp o (bsV s)) (hlen:((bsV s).length + [AV.int .u8 98].length) * 1≤35184372088832) (hf:fl≤hp.length) (hj:Int.tmod (c.toNat:Int) 2=1):∃ hp' o',LoopS (cfg m) fl 15 (bodyAt (cfg m) 15 3) 3 ⟨leSt l o i,hp⟩ ⟨leSt l o' (i + 1),hp'⟩∧Gr fl 1 hp' o' (bsV s++[AV.int .u8 98])∧FrC [] hp hp':=by
 obtain ⟨x'1,hp'2,e3,h4,h5⟩:=(app_u8 (C:=cfg m) (y:=AV.lit 1 Own.exact [AU 98]) (t:=22) ho (by kernel_rfl) (by kernel_rfl) (by simp_all;done) hlen hf)
 exact ⟨hp'2,_,loopStepS (St.mk [TV.v l,J,J,TV.v x'1,TV.v (AI ((↑i:Int) + 1)),J,J,J,J,J,J,J,J,J,J,J,J,J,J,J,J,J,J,J,J,J] hp'2) [.m 3 2 (len_sl (C:=cfg m) (t:=22) (ts':=[]) (fl:=fl) (ar:=false) (hp:=hp) hl (by kernel_rfl)), .b 3 3 (decide_eq_true ((show (↑i:Int) < (↑(bsV bs).length:Int) from (by have:=UInt8.toNat_lt (c);simp only [setAt_length,List.length_append,List.length_cons,List.length_nil,List.length_map] at *;omega)))), .b 3 6 (decide_eq_true ((show (↑i:Int) < 12 from (by omega)))), .a 5 3 (indexAddr_sl (C:=cfg m) (t:=22) (n:=(↑i:Int)) hl (by kernel_rfl) (by omega) hc), .w 5 5 IntKind.u8 (1) hj, .m 5 8 e3, .w 4 1 IntKind.i64 ((↑i:Int) + 1) (wrap_i64' (by omega))] (by kernel_rfl) rfl,by assumption,by assumption⟩
theorem le_x {m:Int} {fl i:Nat} {hp:List Blk} {l o:AV} {bs:List UInt8} (hl:IsSl 1 l (bsV bs)) (hi:bs.length≤i∨12≤i) (hi2:i≤12):LoopI (cfg m) fl 15 (bodyAt (cfg m) 15 3) 3 ⟨leSt l o i,hp⟩ (.exit 0) ⟨leEnd o,hp⟩:=by
 by_cases h1:(↑i:Int) < (↑(bsV bs).length:Int)
 ·exact loopEndC (.exit 0) (St.mk ([J,J,J,TV.v o]++Jn 22) hp) [.m 3 2 (len_sl (C:=cfg m) (t:=22) (ts':=[]) (fl:=fl) (ar:=false) (hp:=hp) hl (by kernel_rfl)), .b 3 3 (decide_eq_true h1), .b 3 6 (decide_eq_false ((show ¬(↑i:Int) < 12 from (by simp only [setAt_length,List.length_append,List.length_cons,List.length_nil,List.length_map] at *;omega))))] (by kernel_rfl) (fun h=>by cases h) rfl
 ·exact loopEndC (.exit 0) (St.mk ([J,J,J,TV.v o]++Jn 22) hp) [.m 3 2 (len_sl (C:=cfg m) (t:=22) (ts':=[]) (fl:=fl) (ar:=false) (hp:=hp) hl (by kernel_rfl)), .b 3 3 (decide_eq_false h1)] (by kernel_rfl) (fun h=>by cases h) rfl
theorem le_ok {m:Int} {fl:Nat} {hp hp':List Blk} {l o:AV} {s:List UInt8} (hlp:LoopI (cfg m) hp.length 15 (bodyAt (cfg m) 15 3) 3 ⟨leSt l .nilS 0,hp⟩ (.exit 0) ⟨leEnd o,hp'⟩) (ho:Gr hp.length 1 hp' o (bsV s)):evI (cfg m) fl 15 [l] hp=some (.str s,hp):=by
 exact evX (AV.str s) (hp') [.l 3 hlp, .m 6 1 (conv_bytes (C:=cfg m) (hp:=hp') (o:=o) (s:=s) (src:=22) (dst:=9) (ar:=false) (Gr.isSl ho) (by kernel_rfl))] (by kernel_rfl) (tlP (by kernel_rfl) rfl (shutT (v:=AV.str s) (v':=AV.str s) (by kernel_rfl))) rfl
end Go.Proofs.YtanopbolgfcojaaGreatDoor.E.SZ
namespace Go.Proofs.YtanopbolgfcojaaGreatDoor.E.SZ.N
open Go Go.Proofs E E.R
section
variable {s:List UInt8}
theorem times_add {P:PL}:∀ {a b i j:Nat},TimesL P (a + b) i j↔∃ m,TimesL P a i m∧TimesL P b m j
 | 0,b,i,j=>by simp [TimesL]
 | a + 1,b,i,j=>by
  rw [show a + 1 + b=(a + b) + 1 by omega]
  simp only [TimesL,times_add (a:=a)]
  exact ⟨fun ⟨m,h1,k,h2,h3⟩=>⟨k,⟨m,h1,h2⟩,h3⟩,fun ⟨k,⟨m,h1,h2⟩,h3⟩=>⟨m,h1,k,h2,h3⟩⟩
theorem times_one {P:PL} {i j:Nat}:TimesL P 1 i j↔P i j:=by simp [TimesL]
theorem opt_iff {P:PL}:∀ {c i j:Nat},OptL P c i j↔∃ k,k≤c∧TimesL P k i j
 | 0,i,j=>by
  constructor
  ·exact fun h=>⟨0,Nat.le_refl _,h⟩
  ·rintro ⟨k,hk,h⟩
   obtain rfl:k=0:=by omega
   exact h
 | c + 1,i,j=>by
  show (∃ m,(i=m∨P i m)∧OptL P c m j)↔_
  constructor
  ·rintro ⟨m,h1,h2⟩
   obtain ⟨k,hk,h⟩:=opt_iff.1 h2
   rcases h1 with rfl | h1
   ·exact ⟨k,by omega,h⟩
   ·exact ⟨k + 1,by omega,m,h1,h⟩
  ·rintro ⟨k,hk,h⟩
   cases k with
   | zero=>exact ⟨i, .inl rfl,opt_iff.2 ⟨0,Nat.zero_le _,h⟩⟩
   | succ k =>
    obtain ⟨m,h1,h2⟩:=h
    exact ⟨m, .inr h1,opt_iff.2 ⟨k,by omega,h2⟩⟩
theorem rep_iff {P:PL} {a b:Int} {i j:Nat} (h0:0≤a) (h1:b < 0∨a≤b):RepL P false a b i j↔∃ c:Nat,a≤c∧(b < 0∨(c:Int)≤b)∧TimesL P c i j:=by
 unfold RepL
 by_cases hb:b < 0
 ·rw [if_pos hb]
  by_cases ha:a=0
  ·rw [if_pos ha]
   exact ⟨fun ⟨c,h⟩=>⟨c,by omega, .inl hb,h⟩,fun ⟨c,_,_,h⟩=>⟨c,h⟩⟩
  ·rw [if_neg ha]
   constructor
   ·rintro ⟨x,y,g1,g2,c,g3⟩
    refine ⟨(a - 1).toNat + (1 + c),by omega, .inl hb,times_add.2 ⟨x,g1,times_add.2 ⟨y,times_one.2 g2,g3⟩⟩⟩
   ·rintro ⟨c,g1,_,g2⟩
    rw [show c=(a - 1).toNat + (1 + (c - a.toNat)) by omega] at g2
    obtain ⟨x,h2,h3⟩:=times_add.1 g2
    obtain ⟨y,h4,h5⟩:=times_add.1 h3
    exact ⟨x,y,h2,times_one.1 h4,_,h5⟩
 ·rw [if_neg hb]
  constructor
  ·rintro ⟨x,g1,g2⟩
   obtain ⟨k,hk,g3⟩:=opt_iff.1 g2
   exact ⟨a.toNat + k,by omega, .inr (by omega),times_add.2 ⟨x,g1,g3⟩⟩
  ·rintro ⟨c,g1,g2,g3⟩
   have g2:(c:Int)≤b:=by omega
   rw [show c=a.toNat + (c - a.toNat) by omega] at g3
   obtain ⟨x,h2,h3⟩:=times_add.1 g3
   exact ⟨x,h2,opt_iff.2 ⟨_,by omega,h3⟩⟩
theorem times_byte {x:UInt8}:∀ {c i j:Nat},TimesL (LN s (oneB x)) c i j↔At s (List.replicate c x) i∧j=i + c
 | 0,i,j=>by
  show i=j↔_
  simp [At.nil,eq_comm]
 | c + 1,i,j=>by
  show (∃ m,LN s (oneB x) i m∧TimesL (LN s (oneB x)) c m j)↔_
  have e:∀ i m,LN s (oneB x) i m↔s[i]?=some x∧m=i + 1:=fun i m=>by rw [LN_oneB]
  simp only [e]
  rw [List.replicate_succ,At_cons]
  constructor
  ·rintro ⟨m,⟨h1,rfl⟩,h2⟩
   obtain ⟨h3,h4⟩:=times_byte.1 h2
   exact ⟨⟨h1,h3⟩,by omega⟩
  ·rintro ⟨⟨h1,h2⟩,h3⟩
   exact ⟨i + 1,⟨h1,rfl⟩,times_byte.2 ⟨h2,by omega⟩⟩
def repB1 (x:UInt8) (a b:Int):Node := .mk 6 W4.zero a b [oneB x]
theorem repB1_size {x:UInt8} {a b:Int} (h0:0≤a) (h1:b = -1∨a≤b) (h2:a≤20) (h3:b≤20):(repB1 x a b).size=if b < 0 then max a 1 + 1 else b + b - a:=by
 unfold repB1
 rw [Node.size_eq]
 simp only [Node.kind,Node.mn,Node.mx,Node.kids,List.map_cons,List.map_nil,sizeV,List.headD_cons,oneB_size]
 rw [if_neg (by omega),if_neg (by omega),if_neg (by omega),if_pos trivial]
 split <;> omega
theorem LN_repB1 {x:UInt8} {a b:Int} (hN:NormE (repB1 x a b)) (h0:0≤a) (h1:b = -1∨a≤b) (h2:a≤20) (h3:b≤20):LN s (repB1 x a b)=fun i j=>∃ c:Nat,a≤c∧(b < 0∨(c:Int)≤b)∧At s (List.replicate c x) i∧j=i + c:=by
 have hs:=repB1_size (x:=x) h0 h1 h2 h3
 funext i j
 apply propext
 by_cases hz:(repB1 x a b).size=0
 ·rw [LN_zero hN hz]
  rw [hz] at hs
  split at hs
  ·omega
  ·have ea:a=0:=by omega
   have eb:b=0:=by omega
   subst ea eb
   constructor
   ·rintro rfl
    exact ⟨0,by omega, .inr (by omega),At.nil _ _,rfl⟩
   ·rintro ⟨c,_,h5,_,h6⟩
    omega
 ·rw [show LN s (repB1 x a b)=RepL (LN s (oneB x)) ((oneB x).size==0) a b from LN_rep hN hz,oneB_size]
  show RepL (LN s (oneB x)) false a b i j↔_
  rw [rep_iff h0 (by omega)]
  simp only [times_byte]
theorem At_rep {x:UInt8} {c k i:Nat}:At (List.replicate k x) (List.replicate c x) i↔c≤k - i:=by
 constructor
 ·intro h
  have:=h.le
  simpa using this
 ·intro h
  unfold At
  simp [h]
end
section
variable {s:List UInt8}
theorem rdO_stepT {A O:List Node} {t u:List UInt8} {n:Node} (h:rdP t=some (n,u)) (h0:t≠[]) (h1:t.headD 0≠41) (h2:t.headD 0≠124):rdO A O t=rdO A (O++[n]) u:=by
 rw [rdO_eq,if_neg (fun g=>g.elim h0 h1),if_neg h2,h]
theorem of_expr {m:Int} {fl:Nat} {hp:List Blk} {t:List UInt8} {n:Node} (h:rdA t=some (n,[])) (hl:t.length≤256) (hc:cloH hp.length hp=true) (hf:fl≤hp.length) :
  (n.size≤200∧Made m fl hp t n)∨evI (cfg m) fl 12 [.str t] hp=some (.tup [.nilP, .int .i64 (t.length:Int), .int .i64 4],hp):=by
 by_cases hz:n.size≤200
 ·exact .inl ⟨hz,of_rd h hz hl hc hf⟩
 ·exact .inr (of_big h (by omega) hl hc)
abbrev nlS:W4:=W4.zero.with 10 10
def byteA:Node:=endF [.one dotS, .one nlS]
def anyN:Node := .mk 6 W4.zero 0 (-1) [byteA]
theorem any_rd:rdA [46,124,10]=some (byteA,[]):=by kernel_rfl
theorem any_rd2:rdA [40,46,124,10,41,42]=some (anyN,[]):=by kernel_rfl
theorem any_norm:NormE anyN:=rdA_norm _ _ _ any_rd2
theorem dot_has:∀ x,x < 256→dotS.has x=decide (x≠10):=by decide +kernel
theorem LN_byteA:LN s byteA=fun i j=>∃ c,s[i]?=some c∧j=i + 1:=by
 have hd:dotS≠W4.zero:=by decide
 have hn:nlS≠W4.zero:=by decide
 unfold byteA
 rw [LN_endF (by simp) (fun n hn'=>by
  rcases List.mem_cons.1 hn' with rfl | hn'
  ·exact one_norm hd
  ·rw [List.mem_singleton.1 hn'];exact one_norm hn)]
 funext i j
 apply propext
 constructor
 ·rintro ⟨n,hn',w⟩
  rcases List.mem_cons.1 hn' with rfl | hn'
  ·rw [LN_one hd] at w;obtain ⟨c,h1,_,h2⟩:=w;exact ⟨c,h1,h2⟩
  ·rw [List.mem_singleton.1 hn',LN_one hn] at w;obtain ⟨c,h1,_,h2⟩:=w;exact ⟨c,h1,h2⟩
 ·rintro ⟨c,h1,h2⟩
  by_cases hc:c.toNat=10
  ·refine ⟨.one nlS,by simp, ?_⟩
   rw [LN_one hn]
   exact ⟨c,h1,by rw [hc];decide,h2⟩
  ·refine ⟨.one dotS,by simp, ?_⟩
   rw [LN_one hd]
   exact ⟨c,h1,by rw [dot_has _ c.toNat_lt];exact decide_eq_true hc,h2⟩
theorem times_any:∀ {c i j:Nat},TimesL (LN s byteA) c i j↔j=i + c∧(c=0∨i + c≤s.length)
 | 0,i,j=>by
  show i=j↔_
  simp [eq_comm]
 | c + 1,i,j=>by
  show (∃ m,LN s byteA i m∧TimesL (LN s byteA) c m j)↔_
  have e:∀ i m,LN s byteA i m↔∃ c,s[i]?=some c∧m=i + 1:=fun i m=>by rw [LN_byteA]
  simp only [e,times_any (c:=c)]
  constructor
  ·rintro ⟨m,⟨d,h1,rfl⟩,h2,h3⟩
   have:=(List.getElem?_eq_some_iff.1 h1).1
   exact ⟨by omega,by omega⟩
  ·rintro ⟨h1,h2⟩
   exact ⟨i + 1,⟨s[i]'(by omega),List.getElem?_eq_getElem _,rfl⟩,by omega,by omega⟩
theorem LN_any {i j:Nat}:LN s anyN i j↔i≤j∧(i=j∨j≤s.length):=by
 have hz:anyN.size≠0:=by
  have:anyN.size=4:=by kernel_rfl
  omega
 have e:LN s anyN=RepL (LN s byteA) (byteA.size==0) 0 (-1):=LN_rep any_norm hz
 have ez:(byteA.size==0)=false:=by
  have:byteA.size=3:=by kernel_rfl
  rw [this];rfl
 rw [e,ez,rep_iff (by decide) (.inl (by decide))]
 constructor
 ·rintro ⟨c,_,_,h⟩
  obtain ⟨rfl,h2⟩:=times_any.1 h
  exact ⟨by omega,by omega⟩
 ·rintro ⟨h1,h2⟩
  exact ⟨j - i,by omega, .inl (by decide),times_any.2 ⟨by omega,by omega⟩⟩
theorem rdP_any (u:List UInt8):rdP (brk [46,124,10]++42::u)=some (anyN,u):=by
 unfold rdP pieceL
 rw [rd_group any_rd]
 rfl
theorem inside_rd {a:List UInt8} {n:Node} (h:rdA a=some (n,[])):rdA ([40,46,124,10,41,42,40]++a++[41,40,46,124,10,41,42])=some (catF [anyN,n,anyN],[]):=by
 have e:[40,46,124,10,41,42,40]++a++[41,40,46,124,10,41,42]=brk [46,124,10]++42::(brk a++(brk [46,124,10]++[42])):=by simp [brk]
 rw [e,rdA_eq,rdO_stepT (rdP_any _) (by simp [brk]) (show (40:UInt8)≠41 by decide) (show (40:UInt8)≠124 by decide),rdO_grp h (brk_hd _ _).2.2.2,rdO_stepT (rdP_any []) (by simp [brk]) (show (40:UInt8)≠41 by decide) (show (40:UInt8)≠124 by decide),rdO_end (.inl rfl)]
 rfl
def begN':Node := .mk 2 W4.zero 0 0 []
def finN':Node := .mk 3 W4.zero 0 0 []
theorem between_rd {a:List UInt8} {n:Node} (h:rdA a=some (n,[])):rdA ([94,40]++a++[41,36])=some (catF [begN',n,finN'],[]):=by
 have e:[94,40]++a++[41,36]=94::(brk a++[36]):=by simp [brk]
 have h1:rdP (94::(brk a++[36]))=some (begN',brk a++[36]):=by
  unfold rdP pieceL
  rw [show atomL rdA (94::(brk a++[36]))=some (begN',brk a++[36]) from rfl]
  exact times_no (brk_hd _ _).2.2.2
 have h2:rdP [36]=some (finN',[]):=by
  unfold rdP pieceL
  rw [show atomL rdA [36]=some (finN',[]) from rfl]
  exact times_no rfl
 rw [e,rdA_eq,rdO_stepT h1 (by simp) (show (94:UInt8)≠41 by decide) (show (94:UInt8)≠124 by decide),rdO_grp h rfl,rdO_stepT h2 (by simp) (show (36:UInt8)≠41 by decide) (show (36:UInt8)≠124 by decide),rdO_end (.inl rfl)]
 rfl
theorem LN_three {a b c:Node} (ha:NormE a) (hb:NormE b) (hc:NormE c) {i j:Nat}:LN s (catF [a,b,c]) i j↔∃ k l,LN s a i k∧LN s b k l∧LN s c l j:=by
 rw [LN_catF (fun n hn=>by
  rcases List.mem_cons.1 hn with rfl | hn
  ·exact ha
  rcases List.mem_cons.1 hn with rfl | hn
  ·exact hb
  ·rw [List.mem_singleton.1 hn];exact hc)]
 simp only [CatL]
 constructor
 ·rintro ⟨k,h1,l,h2,r,h3,rfl⟩;exact ⟨k,l,h1,h2,h3⟩
 ·rintro ⟨k,l,h1,h2,h3⟩;exact ⟨k,h1,l,h2,j,h3,rfl⟩
theorem LN_inside {n:Node} (h:NormE n):LN s (catF [anyN,n,anyN]) 0 s.length↔∃ i j,i≤s.length∧LN s n i j:=by
 rw [LN_three any_norm h any_norm]
 simp only [LN_any]
 constructor
 ·rintro ⟨k,l,h1,h2,h3⟩
  have:=(LN_up n _ _ h2).1
  exact ⟨k,l,by omega,h2⟩
 ·rintro ⟨i,j,h1,h2⟩
  have:=(LN_up n _ _ h2).2 h1
  exact ⟨i,j,⟨by omega, .inr h1⟩,h2,by omega, .inr (Nat.le_refl _)⟩
theorem LN_between {n:Node} (h:NormE n) {i j:Nat}:LN s (catF [begN',n,finN']) i j↔i=0∧j=s.length∧LN s n 0 s.length:=by
 rw [LN_three (a:=begN') (c:=finN') beg_norm h fin_norm]
 have e1:∀ a b,LN s begN' a b↔a=0∧b=a:=fun a b=>by rw [show LN s begN'=_ from LN_beg]
 have e2:∀ a b,LN s finN' a b↔a=s.length∧b=a:=fun a b=>by rw [show LN s finN'=_ from LN_fin]
 simp only [e1,e2]
 constructor
 ·rintro ⟨k,l,⟨rfl,rfl⟩,h2,rfl,rfl⟩
  exact ⟨rfl,rfl,h2⟩
 ·rintro ⟨rfl,rfl,h2⟩
  exact ⟨0,_,⟨rfl,rfl⟩,h2,rfl,rfl⟩
theorem LN_two {a b:Node} (ha:NormE a) (hb:NormE b) {i j:Nat}:LN s (catF [a,b]) i j↔∃ k,LN s a i k∧LN s b k j:=by
 rw [LN_catF (fun n hn=>by
  rcases List.mem_cons.1 hn with rfl | hn
  ·exact ha
  ·rw [List.mem_singleton.1 hn];exact hb)]
 simp only [CatL]
 constructor
 ·rintro ⟨k,h1,r,h3,rfl⟩;exact ⟨k,h1,h3⟩
 ·rintro ⟨k,h1,h3⟩;exact ⟨k,h1,j,h3,rfl⟩
theorem LN_or {a b:Node} (ha:NormE a) (hb:NormE b) {i j:Nat}:LN s (endF [a,b]) i j↔LN s a i j∨LN s b i j:=by
 rw [LN_endF (by simp) (fun n hn=>by
  rcases List.mem_cons.1 hn with rfl | hn
  ·exact ha
  ·rw [List.mem_singleton.1 hn];exact hb)]
 simp
end
end Go.Proofs.YtanopbolgfcojaaGreatDoor.E.SZ.N
namespace Go.Proofs.YtanopbolgfcojaaGreatDoor.E.SZ
open Go Go.Proofs E E.R
abbrev fewS:List UInt8:=[97,98,99,100,10]
theorem fe_i {m:Int} {fl i j:Nat} {hp:List Blk} {l o:AV} {bs s:List UInt8} {c:UInt8} (hl:IsSl 1 l (bsV bs)) (hc:(bsV bs)[i]?=some (.int .u8 (c.toNat:Int))) (hi:i < bs.length) (hi2:i < 24) (ho:Gr fl 1 hp o (bsV s)) (hlen:((bsV s).length + [AV.int .u8 ((gb fewS j).toNat:Int)].length) * 1≤35184372088832) (hf:fl≤hp.length) (hj:Int.tmod (c.toNat:Int) 5=(j:Int)) (hj2:j < 5):∃ hp' o',LoopS (cfg m) fl 11 (bodyAt (cfg m) 11 3) 3 ⟨leSt l o i,hp⟩ ⟨leSt l o' (i + 1),hp'⟩∧Gr fl 1 hp' o' (bsV s++[AV.int .u8 ((gb fewS j).toNat:Int)])∧FrC [] hp hp':=by
 obtain ⟨x'1,hp'2,e3,h4,h5⟩:=(app_u8 (C:=cfg m) (y:=AV.lit 1 Own.exact [AU (↑(gb [97,98,99,100,10] j).toNat:Int)]) (t:=22) ho (by kernel_rfl) (by kernel_rfl) (by simp_all;done) hlen hf)
 exact ⟨hp'2,_,loopStepS (St.mk [TV.v l,J,J,TV.v x'1,TV.v (AI ((↑i:Int) + 1)),J,J,J,J,J,J,J,J,J,J,J,J,J,J,J,J,J,J,J,J,J] hp'2) [.m 3 2 (len_sl (C:=cfg m) (t:=22) (ts':=[]) (fl:=fl) (ar:=false) (hp:=hp) hl (by kernel_rfl)), .b 3 3 (decide_eq_true ((show (↑i:Int) < (↑(bsV bs).length:Int) from (by have:=UInt8.toNat_lt (c);have:=UInt8.toNat_lt (gb fewS j);simp only [setAt_length,List.length_append,List.length_cons,List.length_nil,List.length_map] at *;omega)))), .b 3 6 (decide_eq_true ((show (↑i:Int) < 24 from (by omega)))), .a 5 3 (indexAddr_sl (C:=cfg m) (t:=22) (n:=(↑i:Int)) hl (by kernel_rfl) (by omega) hc), .w 5 5 IntKind.u8 ((↑j:Int)) hj, .v 5 6 (index_gb (C:=cfg m) (t:=9) (s:=[97,98,99,100,10]) (n:=(↑j:Int)) (by kernel_rfl) (by omega) (by have:=UInt8.toNat_lt (c);have:=UInt8.toNat_lt (gb fewS j);simp only [setAt_length,List.length_append,List.length_cons,List.length_nil,List.length_map] at *;omega)), .m 5 8 e3, .w 4 1 IntKind.i64 ((↑i:Int) + 1) (wrap_i64' (by omega))] (by kernel_rfl) rfl,by assumption,by assumption⟩
theorem fe_x {m:Int} {fl i:Nat} {hp:List Blk} {l o:AV} {bs:List UInt8} (hl:IsSl 1 l (bsV bs)) (hi:bs.length≤i∨24≤i) (hi2:i≤24):LoopI (cfg m) fl 11 (bodyAt (cfg m) 11 3) 3 ⟨leSt l o i,hp⟩ (.exit 0) ⟨leEnd o,hp⟩:=by
 by_cases h1:(↑i:Int) < (↑(bsV bs).length:Int)
 ·exact loopEndC (.exit 0) (St.mk ([J,J,J,TV.v o]++Jn 22) hp) [.m 3 2 (len_sl (C:=cfg m) (t:=22) (ts':=[]) (fl:=fl) (ar:=false) (hp:=hp) hl (by kernel_rfl)), .b 3 3 (decide_eq_true h1), .b 3 6 (decide_eq_false ((show ¬(↑i:Int) < 24 from (by simp only [setAt_length,List.length_append,List.length_cons,List.length_nil,List.length_map] at *;omega))))] (by kernel_rfl) (fun h=>by cases h) rfl
 ·exact loopEndC (.exit 0) (St.mk ([J,J,J,TV.v o]++Jn 22) hp) [.m 3 2 (len_sl (C:=cfg m) (t:=22) (ts':=[]) (fl:=fl) (ar:=false) (hp:=hp) hl (by kernel_rfl)), .b 3 3 (decide_eq_false h1)] (by kernel_rfl) (fun h=>by cases h) rfl
theorem fe_ok {m:Int} {fl:Nat} {hp hp':List Blk} {l o:AV} {s:List UInt8} (hlp:LoopI (cfg m) hp.length 11 (bodyAt (cfg m) 11 3) 3 ⟨leSt l .nilS 0,hp⟩ (.exit 0) ⟨leEnd o,hp'⟩) (ho:Gr hp.length 1 hp' o (bsV s)):evI (cfg m) fl 11 [l] hp=some (.str s,hp):=by
 exact evX (AV.str s) (hp') [.l 3 hlp, .m 6 1 (conv_bytes (C:=cfg m) (hp:=hp') (o:=o) (s:=s) (src:=22) (dst:=9) (ar:=false) (Gr.isSl ho) (by kernel_rfl))] (by kernel_rfl) (tlP (by kernel_rfl) rfl (shutT (v:=AV.str s) (v':=AV.str s) (by kernel_rfl))) rfl
def feC (c:UInt8):UInt8:=gb fewS (c.toNat % 5)
def feT (bs:List UInt8):List UInt8:=(bs.take 24).map feC
theorem feT_len (bs:List UInt8):(feT bs).length≤24:=by unfold feT;rw [List.length_map,List.length_take];omega
theorem fe_loop {m:Int} {fl:Nat} {l:AV} {bs:List UInt8} (hl:IsSl 1 l (bsV bs)):∀ (r:List UInt8) (i:Nat) (s:List UInt8) (o:AV) (hp:List Blk),(bs.take 24).drop i=r→i≤24→s.length + r.length≤24→fl≤hp.length→Gr fl 1 hp o (bsV s)→∃ hp' o',LoopI (cfg m) fl 11 (bodyAt (cfg m) 11 3) 3 ⟨leSt l o i,hp⟩ (.exit 0) ⟨leEnd o',hp'⟩∧Gr fl 1 hp' o' (bsV (s++r.map feC))
 | [],i,s,o,hp,hd,hi,hs,hf,ho=>by
  have h1:(bs.take 24).length≤i:=by simpa using hd
  rw [List.length_take] at h1
  rw [List.map_nil,List.append_nil]
  exact ⟨hp,o,fe_x hl (by omega) hi,ho⟩
 | c::r,i,s,o,hp,hd,hi,hs,hf,ho=>by
  have hq:(bs.take 24)[i]?=some c:=by have:=congrArg (·[0]?) hd;simpa using this
  have hlt:=(List.getElem?_eq_some_iff.1 hq).1
  rw [List.length_take] at hlt
  have hq2:bs[i]?=some c:=by rw [List.getElem?_take_of_lt (by omega)] at hq;exact hq
  have hd':(bs.take 24).drop (i + 1)=r:=by rw [← List.drop_drop,hd];rfl
  have hc:(bsV bs)[i]?=some (.int .u8 (c.toNat:Int)):=by rw [List.getElem?_map,hq2];rfl
  simp only [List.length_cons] at hs
  have e:∀ d,bsV s++[AV.int .u8 ((d:UInt8).toNat:Int)]=bsV (s++[d]):=fun d=>by simp [bsV]
  have key:∃ hp1 o1,LoopS (cfg m) fl 11 (bodyAt (cfg m) 11 3) 3 ⟨leSt l o i,hp⟩ ⟨leSt l o1 (i + 1),hp1⟩∧Gr fl 1 hp1 o1 (bsV (s++[feC c]))∧FrC [] hp hp1:=by
   rw [← e]
   exact fe_i (j:=c.toNat % 5) hl hc (by omega) (by omega) ho (by simp [bsV];omega) hf rfl (Nat.mod_lt _ (by omega))
  obtain ⟨hp1,o1,k1,k2,k3⟩:=key
  obtain ⟨hp',o',g1,g2⟩:=fe_loop (m:=m) hl r (i + 1) (s++[feC c]) o1 hp1 hd' (by omega) (by simp;omega) (Nat.le_trans hf k3.1) k2
  exact ⟨hp',o',k1 _ _ g1,by rw [List.map_cons,show s++feC c::r.map feC=s++[feC c]++r.map feC by simp];exact g2⟩
theorem few_ok {m:Int} {fl:Nat} {hp:List Blk} {l:AV} {bs:List UInt8} (hl:IsSl 1 l (bsV bs)):evI (cfg m) fl 11 [l] hp=some (.str (feT bs),hp):=by
 obtain ⟨hp',o',g1,g2⟩:=fe_loop (m:=m) (fl:=hp.length) hl (bs.take 24) 0 [] .nilS hp rfl (by omega) (by rw [List.length_take];simp;omega) (Nat.le_refl _) (Gr.nil _ _ _)
 exact fe_ok g1 g2
end Go.Proofs.YtanopbolgfcojaaGreatDoor.E.SZ
