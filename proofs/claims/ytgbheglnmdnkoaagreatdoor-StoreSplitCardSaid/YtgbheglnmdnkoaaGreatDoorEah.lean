/- Steps of the seat's proofs: an evaluator of the program's code, its soundness, and what the functions come to. -/
import Derived.Test.YtgbheglnmdnkoaaGreatDoorEag
import Derived.KernelRfl
import Derived.Shelf.Small.Strs
import Derived.Shelf.Strconv.Itoa0
import Derived.Shelf.Strconv.Itoa1
import Derived.Shelf.LaysM
import Derived.Shelf.Strconv.Itoa2
import Derived.Shelf.Strconv.Itoa3
import Derived.Shelf.Strconv.Itoa4
import Derived.Shelf.Strconv.ParseIntEmpty
import Derived.Shelf.Strconv.Clone
import Derived.Shelf.Strconv.SyntaxError
import Derived.Shelf.LaysC
import Derived.Shelf.Strconv.ToError
import Derived.Shelf.Strconv.Lower
import Derived.Shelf.Strconv.ParseUint10
import Derived.Shelf.Strconv.ParseUint10Empty
import Derived.Shelf.Strconv.ParseUint10Any
import Derived.Shelf.Strconv.ParseInt10
import Derived.Shelf.Strconv.RangeError
import Derived.Shelf.Strconv.ToErrorRange
import Derived.Shelf.Strconv.ParseUintEmpty
import Derived.Shelf.Strconv.ParseUint10b64
import Derived.Shelf.Strconv.ParseUint10b32
import Derived.Shelf.Strconv.ParseUint10b16
import Derived.Shelf.Strconv.ParseUint10b8
import Derived.Shelf.Strconv.ParseUint10At
import Derived.Shelf.Strconv.ParseInt10At64
import Derived.Shelf.Strconv.ParseInt10At32
import Derived.Shelf.Strconv.ParseInt10At16
import Derived.Shelf.Strconv.ParseInt10At8
import Derived.Shelf.Strconv.ParseInt10All
import Derived.Shelf.Strconv.ParseIntPublic10
import Derived.Shelf.Strings.Search1
import Derived.Shelf.Strings.Search2
import Derived.Shelf.Strings.Search3
import Derived.Shelf.Strings.Shaped
import Derived.Shelf.Slices.Turned
import Derived.Lib.AtoiErrMem
import Derived.Test.YtgbheglnmdnkoaaGreatDoorProg
set_option linter.unusedSimpArgs false
set_option linter.unusedVariables false
namespace Go.Proofs.YtgbheglnmdnkoaaGreatDoor.E.SF
open Go Go.Proofs E E.R E.L
theorem cmp_ok {m:Int} {a b:Int}:∀ fl hp,evI (cfg m) fl 122 [.int .i64 a, .int .i64 b] hp=some (.int .i64 (cmpI a b),hp):=fun fl hp=>by
 unfold cmpI
 split
 ·exact ci_l ‹_›
 ·split
  ·exact ci_g ‹_›
  ·exact ci_e ‹_› ‹_›
theorem ordP_ok {m:Int} {p q:Pr}:∀ fl hp,evI (cfg m) fl 162 [pAV p,pAV q] hp=some (.int .i64 (ordP p q),hp):=fun fl hp=>lo_1 fun fl=>by
 unfold ordP lexC
 by_cases h:cmpS p.1 q.1=0
 ·rw [if_neg (by simpa using h),h]
  by_cases g:cmpS p.2 q.2=0
  ·rw [g];exact or_c
  ·exact or_b g
 ·rw [if_pos h];exact or_a h
theorem cf_loop {m:Int} {hp:List Blk} {a b:AV} {ps qs:List Pr} (ha:IsSl 2 a (ps.map pAV)) (hb:IsSl 2 b (qs.map pAV)) (hq:ps.length≤100000000∨qs.length≤100000000):∀ (d i:Nat),d + i=ps.length→i≤qs.length →
  (∀ fl,LoopI (cfg m) fl 161 (bodyAt (cfg m) 161 2) 2 ⟨cfSt a b ps.length i,hp⟩ .ret ⟨cfRet a b (lisC ordP (ps.drop i) (qs.drop i)),hp⟩) ∨
  ((∀ fl,LoopI (cfg m) fl 161 (bodyAt (cfg m) 161 2) 2 ⟨cfSt a b ps.length i,hp⟩ (.exit 0) ⟨cfEnd a b,hp⟩)∧lisC ordP (ps.drop i) (qs.drop i)=(if ps.length < qs.length then -1 else 0))
 | 0,i,hd,hi=>by
  obtain rfl:i=ps.length:=by omega
  refine .inr ⟨fun fl=>cf_x, ?_⟩
  rw [List.drop_of_length_le (Nat.le_refl _)]
  rcases Nat.lt_or_ge ps.length qs.length with h | h
  ·rw [if_pos h,List.drop_eq_getElem_cons h];rfl
  ·rw [if_neg (by omega),List.drop_of_length_le h];rfl
 | d + 1,i,hd,hi=>by
  have hi':i < ps.length:=by omega
  have hx:(ps.map pAV)[i]?=some (pAV ps[i]):=by rw [List.getElem?_map,List.getElem?_eq_getElem hi'];rfl
  rcases Nat.lt_or_ge i qs.length with h | h
  ·have hy:(qs.map pAV)[i]?=some (pAV qs[i]):=by rw [List.getElem?_map,List.getElem?_eq_getElem h];rfl
   have ho:=ordP_ok (m:=m) (p:=ps[i]) (q:=qs[i])
   have e:lisC ordP (ps.drop i) (qs.drop i)=(if ordP ps[i] qs[i]≠0 then ordP ps[i] qs[i] else lisC ordP (ps.drop (i + 1)) (qs.drop (i + 1))):=by
    rw [List.drop_eq_getElem_cons hi',List.drop_eq_getElem_cons h];rfl
   by_cases hz:ordP ps[i] qs[i]=0
   ·rw [e,if_neg (by simpa using hz)]
    rw [hz] at ho
    have st:=fun fl=>cf_i (m:=m) (fl:=fl) (hp:=hp) (n:=ps.length) ha hb hx hy (by simp) rfl hi' (by simpa using h) (by omega) (fun fl=>ho fl hp)
    rcases cf_loop (m:=m) (hp:=hp) ha hb hq d (i + 1) (by omega) (by omega) with g | ⟨g1,g2⟩
    ·exact .inl fun fl=>st fl _ _ (g fl)
    ·exact .inr ⟨fun fl=>st fl _ _ (g1 fl),g2⟩
   ·rw [e,if_pos hz]
    exact .inl fun fl=>cf_r (m:=m) (n:=ps.length) ha hb hx hy (by simp) rfl hi' (by simpa using h) hz (fun fl=>ho fl hp)
  ·refine .inl fun fl => ?_
   have e:lisC ordP (ps.drop i) (qs.drop i)=1:=by
    rw [List.drop_eq_getElem_cons hi',List.drop_of_length_le h];rfl
   rw [e]
   exact cf_l (m:=m) (n:=ps.length) ha hb hx (by simp) rfl hi' (by simpa using h)
theorem ordL_ok {m:Int} {a b:AV} {ps qs:List Pr} (ha:IsSl 2 a (ps.map pAV)) (hb:IsSl 2 b (qs.map pAV)) (hq:ps.length≤100000000∨qs.length≤100000000):∀ fl hp,evI (cfg m) fl 123 [a,b] hp=some (.int .i64 (ordL ps qs),hp):=fun fl hp=>lo_w fun fl=>by
 have hl:(ps.map pAV).length=ps.length:=by simp
 have hl2:(qs.map pAV).length=qs.length:=by simp
 rcases cf_loop (m:=m) (hp:=hp) ha hb hq ps.length 0 rfl (Nat.zero_le _) with g | ⟨g1,g2⟩
 ·exact cf_0 (n:=0) ha hb fun fl=>by rw [hl];exact g fl
 ·have e:ordL ps qs=(if ps.length < qs.length then -1 else 0):=g2
  rw [e]
  split
  ·exact cf_1 (n:=0) ha hb (by rw [hl,hl2];assumption) fun fl=>by rw [hl];exact g1 fl
  ·exact cf_2 (n:=0) ha hb (by rw [hl,hl2];assumption) fun fl=>by rw [hl];exact g1 fl
theorem ordA_ok {m:Int} {a b:Ea} (ha:OkE a) (hb:OkE b) (hq:Few a∨Few b):∀ fl hp,evI (cfg m) fl 77 [eA a,eA b] hp=some (.int .i64 (ordA a b),hp):=fun fl hp=>by
 refine oe_w (fun fl=>cmp_ok fl hp) (fun fl=>ordL_ok ha hb hq fl hp) fun fl => ?_
 show evI (cfg m) fl 121 [.lit 1 .exact [.int .i64 (cmpI a.1 b.1), .int .i64 (ordL (deL a.2.1) (deL b.2.1)), .int .i64 (cmpS a.2.2 b.2.2)]] hp=some (.int .i64 (ordE (enOf a) (enOf b)),hp)
 unfold ordE lexC
 show _=some (AV.int .i64 (if cmpI a.1 b.1≠0 then cmpI a.1 b.1 else if ordL (deL a.2.1) (deL b.2.1)≠0 then ordL (deL a.2.1) (deL b.2.1) else cmpS a.2.2 b.2.2),hp)
 by_cases h:cmpI a.1 b.1=0
 ·rw [if_neg (by simpa using h),h]
  by_cases g:ordL (deL a.2.1) (deL b.2.1)=0
  ·rw [if_neg (by simpa using g),g]
   by_cases k:cmpS a.2.2 b.2.2=0
   ·rw [k];exact or_6
   ·exact or_5 k
  ·rw [if_pos g];exact or_4 g
 ·rw [if_pos h];exact or_3 h
theorem same_ok {m:Int} {a b:Ea} (ha:OkE a) (hb:OkE b) (hq:Few a∨Few b):∀ fl hp,evI (cfg m) fl 41 [eA a,eA b] hp=some (.bool (ordA a b==0),hp):=fun fl hp=>sa_w fun fl=>ordA_ok ha hb hq fl hp
theorem ahead_ok {m:Int} {a b:Ea} {asc:Bool} (ha:OkE a) (hb:OkE b) (hq:Few a∨Few b):∀ fl hp,evI (cfg m) fl 58 [eA a,eA b, .bool asc] hp=some (.bool (decide ((bif asc then ordA a b else ordA b a) < 0)),hp):=fun fl hp=>by
 cases asc with
 | true=>exact ah_t fun fl=>ordA_ok ha hb hq fl hp
 | false=>exact ah_f fun fl=>ordA_ok hb ha hq.symm fl hp
theorem wrap_p {i:Nat} (h:i≤9223372036854775806):IntKind.i64.wrap (((i + 1:Nat):Int) - 1)=(i:Int):=by
 rw [wrap_i64 (by omega) (by omega)];omega
theorem rr_loop {m:Int} {hp:List Blk} {l:AV} {ps:List Pr} (hl:IsSl 2 l (ps.map pAV)) (hn:ps.length≤9223372036854775807):∀ (d i:Nat),d + i=ps.length→∀ pr:Option Pr,(i=0∧pr=none∨∃ j q,i=j + 1∧ps[j]?=some q∧pr=some q) →
  (rgT pr (ps.drop i)=true→∀ fl,LoopI (cfg m) fl 89 (bodyAt (cfg m) 89 2) 2 ⟨rrSt l ps.length i,hp⟩ (.exit 0) ⟨rrEnd l,hp⟩) ∧
  (rgT pr (ps.drop i)=false→∀ fl,LoopI (cfg m) fl 89 (bodyAt (cfg m) 89 2) 2 ⟨rrSt l ps.length i,hp⟩ .ret ⟨rrRet l,hp⟩)
 | 0,i,hd,pr,hpr=>by
  obtain rfl:i=ps.length:=by omega
  rw [List.drop_of_length_le (Nat.le_refl _)]
  exact ⟨fun _ fl=>rr_x,fun h=>by cases h⟩
 | d + 1,i,hd,pr,hpr=>by
  have hi:i < ps.length:=by omega
  have hx:(ps.map pAV)[i]?=some (pAV ps[i]):=by rw [List.getElem?_map,List.getElem?_eq_getElem hi];rfl
  have hl':(ps.map pAV).length=ps.length:=by simp
  obtain ⟨ih1,ih2⟩:=rr_loop (m:=m) (hp:=hp) hl hn d (i + 1) (by omega) (some ps[i]) (.inr ⟨i,ps[i],rfl,List.getElem?_eq_getElem hi,rfl⟩)
  rw [List.drop_eq_getElem_cons hi]
  have hna:=fun fl=>name_ok (m:=m) (hp:=hp) (s:=ps[i].1) fl
  have hT:rgT pr (ps[i]::ps.drop (i + 1))=(okP pr ps[i]&&rgT (some ps[i]) (ps.drop (i + 1))):=rfl
  rw [hT]
  cases h1:nameB ps[i].1 with
  | false =>
   rw [h1] at hna
   have:okP pr ps[i]=false:=by unfold okP;rw [h1];rfl
   rw [this]
   exact ⟨fun h=>(by cases h),fun _ fl=>rr_n hl hx hl' hi hna⟩
  | true =>
   rw [h1] at hna
   by_cases h2:ps[i].2.length≤256
   ·rcases hpr with ⟨rfl,rfl⟩ | ⟨j,q,rfl,hj,rfl⟩
    ·have:okP none ps[0]=true:=by unfold okP;rw [h1,decide_eq_true h2];rfl
     rw [this,Bool.true_and]
     have st:=fun fl=>rr_0 (m:=m) (fl:=fl) (hp:=hp) hl hx hl' hi hna h2
     exact ⟨fun h fl=>st fl _ _ (ih1 h fl),fun h fl=>st fl _ _ (ih2 h fl)⟩
    ·have hy:(ps.map pAV)[j]?=some (pAV q):=by rw [List.getElem?_map,hj];rfl
     by_cases h3:cmpS q.1 ps[j + 1].1 < 0
     ·have:okP (some q) ps[j + 1]=true:=by unfold okP;rw [h1,decide_eq_true h2];simpa using h3
      rw [this,Bool.true_and]
      have st:=fun fl=>rr_i (m:=m) (fl:=fl) (hp:=hp) hl hx hy hl' hi hn hna h2 (wrap_p (by omega)) h3
      exact ⟨fun h fl=>st fl _ _ (ih1 h fl),fun h fl=>st fl _ _ (ih2 h fl)⟩
     ·have:okP (some q) ps[j + 1]=false:=by unfold okP;rw [h1,decide_eq_true h2];simpa using h3
      rw [this,Bool.false_and]
      exact ⟨fun h=>(by cases h),fun _ fl=>rr_c hl hx hy hl' hi hn hna h2 (wrap_p (by omega)) h3⟩
   ·have:okP pr ps[i]=false:=by unfold okP;rw [decide_eq_false h2];simp
    rw [this]
    exact ⟨fun h=>(by cases h),fun _ fl=>rr_v hl hx hl' hi hna h2⟩
theorem rightL_ok {m:Int} {l:AV} {ps:List Pr} (hl:IsSl 2 l (ps.map pAV)) (hn:ps.length≤9223372036854775807):∀ fl hp,evI (cfg m) fl 89 [l] hp=some (.bool (rgF ps),hp):=fun fl hp=>by
 have hl':(ps.map pAV).length=ps.length:=by simp
 obtain ⟨h1,h2⟩:=rr_loop (m:=m) (hp:=hp) hl hn ps.length 0 rfl none (.inl ⟨rfl,rfl⟩)
 unfold rgF
 cases h:rgT none ps with
 | true =>
  have:=rr_t (m:=m) (fl:=fl) (hp:=hp) hl fun fl=>by rw [hl'];exact h1 h fl
  rw [this,hl',Bool.true_and]
  congr 3
  rw [Bool.eq_iff_iff];simp only [decide_eq_true_eq];omega
 | false =>
  rw [Bool.false_and]
  exact rr_f (m:=m) (fl:=fl) (hp:=hp) hl fun fl=>by rw [hl'];exact h2 h fl
theorem rightA_ok {m:Int} {a:Ea} (ha:OkE a) (hn:Lim a):∀ fl hp,evI (cfg m) fl 40 [eA a] hp=some (.bool (rightE (enOf a)),hp):=fun fl hp=>by
 unfold rightE
 show _=some (AV.bool (rgF (deL a.2.1)&&decide (a.2.2.length≤256)),hp)
 cases h:rgF (deL a.2.1) with
 | true =>
  rw [Bool.true_and]
  have:=er_t (m:=m) (fl:=fl) (hp:=hp) (t:=a.1) (l:=a.2.1) (s:=a.2.2) fun fl=>by
   have:=rightL_ok (m:=m) ha hn fl hp;rwa [h] at this
  rw [this]
  congr 3
  rw [Bool.eq_iff_iff];simp only [decide_eq_true_eq];omega
 | false =>
  rw [Bool.false_and]
  exact er_f fun fl=>by have:=rightL_ok (m:=m) ha hn fl hp;rwa [h] at this
theorem ij_loop {m:Int} {fl b N i:Nat} {zs:List AV} (hz:AggN 3 zs) (hN2:N < 100000) (hf:fl≤b) (x:Ea) (hx:OkE x) (hx2:Few x):∀ (d:Nat) (p s:List Ea) (hp:List Blk),p.length=d→p.length + 1 + s.length=N→(∀ t ∈ p,OkE t)→blkCells hp b=some (flat ((p++x::s).map eA++zs)) →
  ∃ q hp',LoopI (cfg m) fl 158 (bodyAt (cfg m) 158 4) 4 ⟨ijSt b N i p.length,hp⟩ (.exit 2) ⟨isSt b N i,hp'⟩∧blkCells hp' b=some (flat ((q++s).map eA++zs))∧q.Perm (x::p)∧(SrtA p→SrtA q)∧PreN b hp hp'
 | 0,p,s,hp,hd,hl,ho,hb=>by
  obtain rfl:p=[]:=List.eq_nil_of_length_eq_zero hd
  exact ⟨[x],hp,ij_0,by simpa using hb, .refl _,fun _=>by simp [SrtA,SrtE], .refl _ _⟩
 | d + 1,p,s,hp,hd,hl,ho,hb=>by
  obtain ⟨p',y,rfl⟩:∃ p' y,p=p'++[y]:=by
   refine ⟨p.dropLast,p.getLast (by intro h;rw [h] at hd;cases hd),(List.dropLast_concat_getLast _).symm⟩
  have hj:p'.length=d:=by simpa using hd
  have hlen:(p'++[y]).length=p'.length + 1:=by simp
  have hy:=ho y (by simp)
  have hlx:((p'++[y]++x::s).map eA++zs)[p'.length + 1]?=some (eA x):=by
   rw [List.getElem?_append_left (by simp),List.getElem?_map,List.getElem?_append_right (by simp)];simp
  have hly:((p'++[y]++x::s).map eA++zs)[p'.length]?=some (eA y):=by
   rw [List.getElem?_append_left (by simp),List.getElem?_map,List.append_assoc,List.getElem?_append_right (by simp)];simp
  have hagg:AggN 3 ((p'++[y]++x::s).map eA++zs):=aggE.app hz
  have hc:=ordA_ok (m:=m) hx hy (.inl hx2)
  have hNl:N≤((p'++[y]++x::s).map eA++zs).length:=by simp at hl ⊢;omega
  rw [hlen]
  by_cases hr:ordA x y < 0
  ·have s1:((p'++[y]++x::s).map eA++zs).set (p'.length + 1) (eA y)=(p'++[y]++y::s).map eA++zs:=by
    rw [List.set_append_left _ _ (by simp),← hlen]
    congr 1
    rw [List.map_append,List.map_append,List.map_cons,List.map_cons,List.set_append_right _ _ (by simp)]
    simp
   have s2:((p'++[y]++y::s).map eA++zs).set p'.length (eA x)=(p'++x::(y::s)).map eA++zs:=by
    rw [List.set_append_left _ _ (by simp)]
    congr 1
    rw [List.append_assoc,List.map_append,List.map_append,List.set_append_right _ _ (by simp)]
    simp
   have st:=ij_s (m:=m) (fl:=fl) (b:=b) (N:=N) (i:=i) (hp:=hp) (wrap_p (by simp at hl;omega)) hb hagg (hagg.set rfl) (by rw [List.length_set];exact hNl) hNl hN2 hlx hly (by simp at hl;omega) hf hc hr
   rw [s1,s2] at st
   obtain ⟨q,hp',g1,g2,g3,g4,g5⟩:=ij_loop hz hN2 hf x hx hx2 d p' (y::s) _ hj (by simp at hl ⊢;omega) (fun t ht=>ho t (by simp [ht])) (blk_set (Nat.lt_of_lt_of_eq (blk_lt hb) (setAt_length _ _ _).symm))
   refine ⟨q++[y],hp',st _ _ g1,by simpa using g2, ?_,fun hs=>ins_srt hs g3 g4 hr,((PreN.set (Nat.le_refl _)).trans (PreN.set (Nat.le_refl _))).trans g5⟩
   exact (g3.append_right [y]).trans (by simp)
  ·refine ⟨p'++[y]++[x],hp,ij_x (m:=m) (wrap_p (by simp at hl;omega)) hb hagg hNl hN2 hlx hly (by simp at hl;omega) hc hr,by simpa using hb, ?_,fun hs=>snoc_srt hs hr, .refl _ _⟩
   exact List.perm_append_comm (l₁:=p'++[y]) (l₂:=[x])
theorem is_loop {m:Int} {fl b N:Nat} {zs:List AV} {us:List Ea} (hz:AggN 3 zs) (hN2:N < 100000) (hf:fl≤b) (ho:∀ t ∈ us,OkE t∧Few t) (hu:us.length=N):∀ (d i:Nat) (q s:List Ea) (hp:List Blk),d + i=N→q.length=i→(q++s).Perm us→SrtA q→blkCells hp b=some (flat ((q++s).map eA++zs)) →
  ∃ r hp',LoopI (cfg m) fl 158 (bodyAt (cfg m) 158 1) 1 ⟨isSt b N i,hp⟩ (.exit 0) ⟨List.replicate 53 J,hp'⟩∧blkCells hp' b=some (flat (r.map eA++zs))∧r.Perm us∧SrtA r∧PreN b hp hp'
 | 0,i,q,s,hp,hd,hq,hpm,hs,hb=>by
  have:s=[]:=by
   have:=hpm.length_eq
   rw [List.length_append,hu] at this
   exact List.eq_nil_of_length_eq_zero (by omega)
  subst this
  rw [List.append_nil] at hpm hb
  exact ⟨q,hp,is_x (by omega),hb,hpm,hs, .refl _ _⟩
 | d + 1,i,q,s,hp,hd,hq,hpm,hs,hb=>by
  match s with
  | [] =>
   have:=hpm.length_eq
   rw [List.append_nil,hu] at this
   omega
  | x::s =>
   have hx:=ho x (hpm.mem_iff.1 (by simp))
   obtain ⟨q',hp',g1,g2,g3,g4,g5⟩:=ij_loop (m:=m) (i:=i) hz hN2 hf x hx.1 hx.2 q.length q s hp rfl (by
    have:=hpm.length_eq;simp only [List.length_append,List.length_cons] at this;omega) (fun t ht=>(ho t (hpm.mem_iff.1 (by simp [ht]))).1) hb
   rw [hq] at g1
   have st:=is_i (m:=m) (fl:=fl) (b:=b) (by omega) hN2 g1
   have hpm':(q'++s).Perm us:=(g3.append_right s).trans ((List.perm_middle (l₁:=q) (l₂:=s) (a:=x)).symm.trans hpm)
   obtain ⟨r,hp'',k1,k2,k3,k4,k5⟩:=is_loop hz hN2 hf ho hu d (i + 1) q' s hp' (by omega) (by rw [g3.length_eq];simp [hq]) hpm' (g4 hs) g2
   exact ⟨r,hp'',st _ _ k1,k2,k3,k4,g5.trans k5⟩
theorem sort_ok {m:Int} {fl b:Nat} {zs:List AV} {us:List Ea} {hp:List Blk} (hz:AggN 3 zs) (hN2:us.length < 20) (hf:fl≤b) (ho:∀ t ∈ us,OkE t∧Few t) (hb:blkCells hp b=some (flat (us.map eA++zs))):∃ r hp',evI (cfg m) fl 76 [.arr 3 b 0 us.length,fnO] hp=some (.tup [],hp')∧blkCells hp' b=some (flat (r.map eA++zs))∧r.Perm us∧SrtA r∧PreN b hp hp':=by
 cases us with
 | nil =>
  refine ⟨[],hp,so_w (sb_w (by simp) (is_w (is_x (by simp)))),hb, .refl _,by simp [SrtA,SrtE], .refl _ _⟩
 | cons x us =>
  obtain ⟨r,hp',g1,g2⟩:=is_loop (m:=m) (fl:=fl) (b:=b) (N:=(x::us).length) hz (by omega) hf ho rfl us.length 1 [x] us hp (by simp) rfl (.refl _) (by simp [SrtA,SrtE]) hb
  exact ⟨r,hp',so_w (sb_w hN2 (is_w g1)),g2⟩
def clL:AV→AV
 | .lit _ _ [] => .lit 2 .exact []
 | .lit _ _ xs => .lit 2 .sealed xs
 | _ => .nilS
theorem cl_ok {m:Int} {l:AV} (h:OkL l) (hf:(deL l).length≤100000000):(∀ fl hp,evI (cfg m) fl 75 [l] hp=some (clL l,hp))∧IsSl 2 (clL l) ((deL l).map pAV)∧∀ d,Plain (d + 4) (clL l):=by
 unfold OkL at h
 generalize deL l=ps at h hf
 rcases h with ⟨rfl,h⟩ | ⟨o,rfl⟩
 ·have:ps=[]:=by simpa using h
  subst this
  exact ⟨fun fl hp=>cl_n, .nil _,fun d=>plain_nilS⟩
 ·match ps,hf with
  | [],_=>exact ⟨fun fl hp=>cl_0, .lit _ _ _,fun d=>plain_exact fun v hv=>(by cases hv)⟩
  | p::ps,hf =>
   refine ⟨fun fl hp => ?_, .lit _ _ _,fun d=>plain_sealed fun v hv => ?_⟩
   ·have hb:blkCells (hp++[.cells (flat ((p::ps).map pAV))]) hp.length=some (flat ((p::ps).map pAV)):=blk_last
    have hr:RowN hp.length 2 (hp++[.cells (flat ((p::ps).map pAV))]) (.arr 2 hp.length 0 ((p::ps).map pAV).length) ((p::ps).map pAV) := .inr ⟨_,rfl,hb,Nat.le_refl _,aggP⟩
    obtain ⟨v,h1,h2⟩:=shut_row (N:=hp.length) hr (Nat.le_refl _) (by simp)
    rw [h2] at h1
    exact cl_a (ws:=(p::ps).map pAV) elems_lit' aggP (by simp) (by simp at hf ⊢;omega) h1
   ·obtain ⟨q,_,rfl⟩:=List.mem_map.1 hv
    exact plainP (d:=d + 1)
def clE (e:Ea):Ea:=(e.1,clL e.2.1,e.2.2)
theorem clE_ok {e:Ea} (h:OkE e) (hf:Few e):OkE (clE e)∧enOf (clE e)=enOf e∧Few (clE e)∧∀ d,Plain (d + 5) (eA (clE e)):=by
 obtain ⟨_,h2,h3⟩:=cl_ok (m:=0) h hf
 have e1:deL (clL e.2.1)=deL e.2.1:=deL_of h2
 refine ⟨?_, ?_, ?_,fun d=>plain_agg fun v hv => ?_⟩
 ·show OkL (clL e.2.1)
  unfold OkL;rw [e1];exact h2
 ·show (e.1,deL (clL e.2.1),e.2.2)=(e.1,deL e.2.1,e.2.2)
  rw [e1]
 ·show (deL (clL e.2.1)).length≤_
  rw [e1];exact hf
 ·simp only [List.mem_cons,List.not_mem_nil,or_false] at hv
  rcases hv with rfl | rfl | rfl
  ·exact plain_int
  ·exact h3 d
  ·exact plain_str
theorem nl_loop {m:Int} {fl b N:Nat} {rp:AV} {zs:List AV} {us:List Ea} (hz:AggN 3 zs) (hN:us.length=N) (hN2:N < 100000) (hf:fl≤b) (ho:∀ t ∈ us,OkE t∧Few t):∀ (d i:Nat) (hp:List Blk),d + i=N→blkCells hp b=some (flat (((us.take i).map clE++us.drop i).map eA++zs)) →
  ∃ hp',LoopI (cfg m) fl 26 (bodyAt (cfg m) 26 4) 4 ⟨nlSt rp b N i,hp⟩ (.exit 0) ⟨nlEnd rp b N,hp'⟩∧blkCells hp' b=some (flat ((us.map clE).map eA++zs))∧PreN b hp hp'
 | 0,i,hp,hd,hb=>by
  obtain rfl:i=N:=by omega
  rw [← hN,List.take_length,List.drop_length,List.append_nil] at hb
  exact ⟨hp,nl_x,hb, .refl _ _⟩
 | d + 1,i,hp,hd,hb=>by
  have hi:i < us.length:=by omega
  obtain ⟨h1,h2⟩:=ho _ (List.getElem_mem hi)
  obtain ⟨c1,c2,_⟩:=cl_ok (m:=m) h1 h2
  have htl:((us.take i).map clE).length=i:=by simp;omega
  have hv:(((us.take i).map clE++us.drop i).map eA++zs)[i]?=some (eA us[i]):=by
   rw [List.getElem?_append_left (by simp;omega),List.getElem?_map,List.getElem?_append_right (by omega),htl,Nat.sub_self,List.drop_eq_getElem_cons hi];rfl
  have st:=nl_i (m:=m) (fl:=fl) (b:=b) (N:=N) (i:=i) (rp:=rp) (hp:=hp) hb (aggE.app hz) hv (by simp;omega) (by omega) hN2 c1 c2 hf
  have e1:(((us.take i).map clE++us.drop i).map eA++zs).set i (enA us[i].1 (clL us[i].2.1) us[i].2.2)=(((us.take (i + 1)).map clE++us.drop (i + 1)).map eA++zs):=by
   rw [List.set_append_left _ _ (by simp;omega)]
   congr 1
   rw [List.map_append,List.set_append_right _ _ (by simp;omega),List.length_map,htl,Nat.sub_self,List.drop_eq_getElem_cons hi,List.map_cons,List.set_cons_zero,List.take_add_one,List.getElem?_eq_getElem hi]
   simp only [Option.toList_some,List.map_append,List.map_cons,List.map_nil,List.append_assoc,List.cons_append,List.nil_append]
   rfl
  rw [e1] at st
  obtain ⟨hp',g1,g2,g3⟩:=nl_loop hz hN hN2 hf ho d (i + 1) _ (by omega) (blk_set (blk_lt hb))
  exact ⟨hp',st _ _ g1,g2,(PreN.set (Nat.le_refl _)).trans g3⟩
theorem clos_ok {m:Int}:ClE m fun t => !rightE (enOf t):=fun hp t fl h=>nd_w fun fl=>rightA_ok h.1 h.2 fl hp
theorem rgT_few {ps:List Pr} (h:rgF ps=true):ps.length≤16:=by
 unfold rgF at h
 simp at h
 exact h.2
structure EsOK (r:List Ea):Prop where
 ok:∀ t ∈ r,OkE t∧Few t
 pl:∀ t ∈ r,∀ d,Plain (d + 5) (eA t)
 srt:SrtA r
def Rep (n:Nat) (hp:List Blk) (H:Nat) (rp:AV) (c:Nat) (r:List Ea):Prop:=∃ es,blkCells hp H=some [rp,AI c,es]∧RowE n hp es r∧n≤H∧EsOK r∧∀ b,es = .arr 3 b 0 r.length→b≠H
theorem new_ok {m:Int} {fl:Nat} {hp:List Blk} {ow:Own} {us:List Ea} {rp rp':AV} {ws:List AV} (hr:rp' = .nilS∨rp' = .lit 2 .sealed ws) (h78:∀ hp',PreN hp.length hp hp'→∀ fl,evI (cfg m) fl 78 [rp] hp'=some (rp',hp')) (h0:us≠[]) (hl:us.length < 20) (ho:∀ t ∈ us,OkE t∧Lim t):∃ H hp' r,evI (cfg m) fl 26 [.lit 3 ow (us.map eA),rp] hp=some (.ptr H 0,hp')∧Rep hp.length hp' H rp' 0 r∧(r.map enOf).Perm ((us.map enOf).filter rightE)∧PreN hp.length hp hp':=by
 have h1:=ce_a (m:=m) (fl:=hp.length) (hp:=hp) (ow:=ow) (ws:=us.map eA) elems_lit' aggE (by simpa using h0) (by simp;omega)
 rw [List.length_map] at h1
 have f1:PreN hp.length hp (hp++[.cells (flat (us.map eA))]) := .app (Nat.le_refl _)
 obtain ⟨hp2,zs,h2,b2,z2,f2⟩:=del_ok (m:=m) (fl:=hp.length) (n0:=hp.length) (b:=hp.length) (clos_ok (m:=m)) ho (hp:=hp++[.cells (flat (us.map eA))]) blk_last (Nat.le_refl _) (by omega) (Nat.le_refl _)
 have ef:(us.filter fun t => !!rightE (enOf t))=us.filter fun t=>rightE (enOf t):=by congr 1;funext t;simp
 rw [ef] at h2 b2
 generalize hk:us.filter (fun t=>rightE (enOf t))=ks at h2 b2
 have hkl:ks.length < 20:=by rw [← hk];exact Nat.lt_of_le_of_lt (List.length_filter_le _ _) hl
 have hko:∀ t ∈ ks,OkE t∧Few t:=fun t ht=>by
  rw [← hk] at ht
  obtain ⟨ht,hr⟩:=List.mem_filter.1 ht
  refine ⟨(ho t ht).1, ?_⟩
  unfold rightE at hr
  simp only [Bool.and_eq_true] at hr
  have:=rgT_few hr.1
  exact Nat.le_trans this (by decide)
 obtain ⟨hp3,h3,b3,f3⟩:=nl_loop (m:=m) (fl:=hp.length) (b:=hp.length) (rp:=rp) z2 rfl (by omega) (Nat.le_refl _) hko ks.length 0 hp2 rfl (by simpa using b2)
 have hco:∀ t ∈ ks.map clE,OkE t∧Few t:=fun t ht=>by
  obtain ⟨e,he,rfl⟩:=List.mem_map.1 ht
  obtain ⟨a,_,b,_⟩:=clE_ok (hko e he).1 (hko e he).2
  exact ⟨a,b⟩
 obtain ⟨r,hp4,h4,b4,p4,s4,f4⟩:=sort_ok (m:=m) (fl:=hp.length) (b:=hp.length) (us:=ks.map clE) z2 (by simpa using hkl) (Nat.le_refl _) hco b3
 rw [List.length_map] at h4
 have hrl:r.length=ks.length:=by rw [p4.length_eq,List.length_map]
 have f:PreN hp.length hp hp4:=((f1.trans f2).trans f3).trans f4
 have f5:PreN hp.length hp (hp4++[.cells [rp',AI 0, .arr 3 hp.length 0 ks.length]]):=f.trans (.app f.1)
 have hmin:(bif false then bif decide ((ks.length:Int) < 512) then (512:Int) else (ks.length:Int) else bif decide ((512:Int) < (ks.length:Int)) then (512:Int) else (ks.length:Int))=(ks.length:Int):=by
  rw [cond_false rfl,decide_eq_false (by omega),cond_false rfl]
 have hlt:hp.length < hp4.length:=blk_lt b4
 refine ⟨hp4.length,hp4++[.cells [rp',AI 0, .arr 3 hp.length 0 ks.length]],r, ?_,⟨_,blk_last, .inr ⟨hp.length,zs,by rw [hrl],blk_app b4,Nat.le_refl _,z2⟩,f.1,⟨fun t ht=>hco t (p4.mem_iff.1 ht),fun t ht d => ?_,s4⟩,fun b hb => ?_⟩, ?_,f5⟩
 ·rcases hr with rfl | rfl
  ·exact ne_a0 (m:=m) (ws:=ws) h1 h2 b2 hmin h3 h4 (h78 hp4 f)
  ·exact ne_a1 (m:=m) h1 h2 b2 hmin h3 h4 (h78 hp4 f)
 ·obtain ⟨e,he,rfl⟩:=List.mem_map.1 (p4.mem_iff.1 ht)
  exact (clE_ok (hko e he).1 (hko e he).2).2.2.2 d
 ·injection hb with _ e1 _ _
  omega
 ·have e1:(ks.map clE).map enOf=ks.map enOf:=by
   rw [List.map_map]
   exact List.map_congr_left fun e he=>(clE_ok (hko e he).1 (hko e he).2).2.1
  have e2:ks.map enOf=(us.map enOf).filter rightE:=by rw [← hk,List.filter_map];rfl
  have:=p4.map enOf
  rw [e1,e2] at this
  exact this
abbrev rpA (f:Bool) (k:Int):AV := .agg [.bool f, .int .i64 k]
abbrev askC (f t:Int) (asc:Bool) (lim:Int) (has:Bool) (a:Ea):List AV:=[.int .i64 f, .int .i64 t, .bool asc, .int .i64 lim, .bool has, .int .i64 a.1,a.2.1, .str a.2.2]
theorem ar_t {m:Int} {fl:Nat} {hp:List Blk} {f t lim:Int} {asc has:Bool} {a:Ea} (h:f < t) (g:0 < lim):evI (cfg m) fl 37 [.agg (askC f t asc lim has a)] hp=some (.bool true,hp):=by
 exact evX (AV.bool true) (hp) [.b 1 4 (decide_eq_true (h)), .b 1 8 (decide_eq_true (g))] (by kernel_rfl) (tlP (by kernel_rfl) rfl (shutT (v:=AV.bool true) (v':=AV.bool true) (by kernel_rfl))) rfl
theorem ca_i {m:Int} {fl B c:Nat} {hp:List Blk} {rs es:AV} {ws:List AV} {f:Bool} {k:Int} (hb:blkCells hp B=some [rs,AI c,es]) (hr:IsSl 2 rs ws) (hx:ws[c]?=some (rpA f k)) (hc:c < ws.length) (hc2:c < 1000000) (hf:fl≤B):evI (cfg m) fl 83 [.ptr B 0] hp=some (rpA f k,setAt hp B (.cells [rs,AI (c + 1),es])):=by
 exact evX (AV.agg [AV.bool f,AI k]) (setAt hp B (BC [rs,AI ((↑c:Int) + 1),es])) [.m 1 3 (load_ok (C:=cfg m) (t:=3) (off:=1) (x:=AI c) hb (by kernel_rfl)), .m 1 7 (load_ok (C:=cfg m) (t:=52) (off:=0) (x:=rs) hb (by kernel_rfl)), .m 1 8 (len_sl (C:=cfg m) (t:=52) (ts':=[]) (fl:=fl) (ar:=false) (hp:=hp) hr (by kernel_rfl)), .b 1 9 (decide_eq_true ((show (↑c:Int) < (↑ws.length:Int) from (by omega)))), .m 2 3 (load_ok (C:=cfg m) (t:=52) (off:=0) (x:=rs) hb (by kernel_rfl)), .m 2 7 (load_ok (C:=cfg m) (t:=3) (off:=1) (x:=AI c) hb (by kernel_rfl)), .a 2 8 (indexAddr_sl (C:=cfg m) (t:=52) (n:=(↑c:Int)) hr (by kernel_rfl) (by omega) hx), .m 3 3 (load_ok (C:=cfg m) (t:=3) (off:=1) (x:=AI c) hb (by kernel_rfl)), .w 3 4 IntKind.i64 ((↑c:Int) + 1) (wrap_i64' (by omega)), .t 3 7 (store_ok (C:=cfg m) (t:=3) (off:=1) (hp':=setAt hp B (BC [rs,AI ((↑c:Int) + 1),es])) (cs':=[rs,AI ((↑c:Int) + 1),es]) (x:=AI ((↑c:Int) + 1)) hb (by kernel_rfl) hf rfl)] (by kernel_rfl) (tlK (by kernel_rfl) rfl) rfl
theorem ca_o {m:Int} {fl B c:Nat} {hp:List Blk} {rs es:AV} {ws:List AV} (hb:blkCells hp B=some [rs,AI c,es]) (hr:IsSl 2 rs ws) (hc:ws.length≤c) (hc2:c < 1000000) (hf:fl≤B):evI (cfg m) fl 83 [.ptr B 0] hp=some (rpA false 0,setAt hp B (.cells [rs,AI (c + 1),es])):=by
 exact evX (AV.agg [AV.bool false,AI 0]) (setAt hp B (BC [rs,AI ((↑c:Int) + 1),es])) [.m 1 3 (load_ok (C:=cfg m) (t:=3) (off:=1) (x:=AI c) hb (by kernel_rfl)), .m 1 7 (load_ok (C:=cfg m) (t:=52) (off:=0) (x:=rs) hb (by kernel_rfl)), .m 1 8 (len_sl (C:=cfg m) (t:=52) (ts':=[]) (fl:=fl) (ar:=false) (hp:=hp) hr (by kernel_rfl)), .b 1 9 (decide_eq_false ((show ¬(↑c:Int) < (↑ws.length:Int) from (by omega)))), .m 3 3 (load_ok (C:=cfg m) (t:=3) (off:=1) (x:=AI c) hb (by kernel_rfl)), .w 3 4 IntKind.i64 ((↑c:Int) + 1) (wrap_i64' (by omega)), .t 3 7 (store_ok (C:=cfg m) (t:=3) (off:=1) (hp':=setAt hp B (BC [rs,AI ((↑c:Int) + 1),es])) (cs':=[rs,AI ((↑c:Int) + 1),es]) (x:=AI ((↑c:Int) + 1)) hb (by kernel_rfl) hf rfl)] (by kernel_rfl) (tlK (by kernel_rfl) rfl) rfl
theorem wa_0 {m:Int} {fl:Nat} {hp:List Blk} {f t lim u:Int} {asc has:Bool} {a:Ea} {l:AV} {s:Bs} (h:¬ f≤u):evI (cfg m) fl 84 [.agg (askC f t asc lim has a),enA u l s] hp=some (.bool false,hp):=by
 exact evX (AV.bool false) (hp) [.b 1 4 (decide_eq_false (h))] (by kernel_rfl) (tlP (by kernel_rfl) rfl (shutT (v:=AV.bool false) (v':=AV.bool false) (by kernel_rfl))) rfl
theorem wa_1 {m:Int} {fl:Nat} {hp:List Blk} {f t lim u:Int} {asc has:Bool} {a:Ea} {l:AV} {s:Bs} (h:f≤u) (g:¬ u < t):evI (cfg m) fl 84 [.agg (askC f t asc lim has a),enA u l s] hp=some (.bool false,hp):=by
 exact evX (AV.bool false) (hp) [.b 1 4 (decide_eq_true (h)), .b 1 10 (decide_eq_false (g))] (by kernel_rfl) (tlP (by kernel_rfl) rfl (shutT (v:=AV.bool false) (v':=AV.bool false) (by kernel_rfl))) rfl
theorem wa_2 {m:Int} {fl:Nat} {hp:List Blk} {f t lim u:Int} {asc:Bool} {a:Ea} {l:AV} {s:Bs} (h:f≤u) (g:u < t):evI (cfg m) fl 84 [.agg (askC f t asc lim false a),enA u l s] hp=some (.bool true,hp):=by
 exact evX (AV.bool true) (hp) [.b 1 4 (decide_eq_true (h)), .b 1 10 (decide_eq_true (g))] (by kernel_rfl) (tlP (by kernel_rfl) rfl (shutT (v:=AV.bool true) (v':=AV.bool true) (by kernel_rfl))) rfl
theorem wa_3t {m:Int} {fl:Nat} {hp:List Blk} {f t lim u:Int} {r:Bool} {a:Ea} {l:AV} {s:Bs} (h:f≤u) (g:u < t) (hr:∀ fl,evI (cfg m) fl 58 [eA a,enA u l s, .bool true] hp=some (.bool r,hp)):evI (cfg m) fl 84 [.agg (askC f t true lim true a),enA u l s] hp=some (.bool r,hp):=by
 rcases bcases (r) with h1 | h1
 ·exact evX (AV.bool true) (hp) [.b 1 4 (decide_eq_true (h)), .b 1 10 (decide_eq_true (g)), .cb 1 22 (hr (hp.length)) h1] (by kernel_rfl) (tlP (by kernel_rfl) rfl (shutT (v:=AV.bool true) (v':=AV.bool true) (by kernel_rfl))) (by simp_all)
 ·exact evX (AV.bool false) (hp) [.b 1 4 (decide_eq_true (h)), .b 1 10 (decide_eq_true (g)), .cb 1 22 (hr (hp.length)) h1] (by kernel_rfl) (tlP (by kernel_rfl) rfl (shutT (v:=AV.bool false) (v':=AV.bool false) (by kernel_rfl))) (by simp_all)
theorem wa_3f {m:Int} {fl:Nat} {hp:List Blk} {f t lim u:Int} {r:Bool} {a:Ea} {l:AV} {s:Bs} (h:f≤u) (g:u < t) (hr:∀ fl,evI (cfg m) fl 58 [eA a,enA u l s, .bool false] hp=some (.bool r,hp)):evI (cfg m) fl 84 [.agg (askC f t false lim true a),enA u l s] hp=some (.bool r,hp):=by
 rcases bcases (r) with h1 | h1
 ·exact evX (AV.bool true) (hp) [.b 1 4 (decide_eq_true (h)), .b 1 10 (decide_eq_true (g)), .cb 1 22 (hr (hp.length)) h1] (by kernel_rfl) (tlP (by kernel_rfl) rfl (shutT (v:=AV.bool true) (v':=AV.bool true) (by kernel_rfl))) (by simp_all)
 ·exact evX (AV.bool false) (hp) [.b 1 4 (decide_eq_true (h)), .b 1 10 (decide_eq_true (g)), .cb 1 22 (hr (hp.length)) h1] (by kernel_rfl) (tlP (by kernel_rfl) rfl (shutT (v:=AV.bool false) (v':=AV.bool false) (by kernel_rfl))) (by simp_all)
theorem app_e {C:Cfg} {fl n:Nat} {hp:List Blk} {x y:AV} {vs ws:List AV} {t:TypeId} (h:RowN n 3 hp x vs) (hy:elems hp 3 y=some ws) (ha:AggN 3 ws) (hz:ws≠[]) (ht:elT C t 3 48=true) (hl:(vs.length + ws.length) * 48≤140737488355328) (hf:fl≤n) (hn:n≤hp.length) :
  ∃ b hp' fp,(∀ ts,builtinE C fl true ⟨ts,hp⟩ .append [t,t] [x,y]=some ⟨.v (.arr 3 b 0 (vs.length + ws.length)),ts,hp',fp⟩)∧RowN n 3 hp' (.arr 3 b 0 (vs.length + ws.length)) (vs++ws)∧PreN n hp hp':=by
 obtain ⟨x',hp',fp,h1,h2,h3⟩:=append_row h hy ha ht (by decide) hl hf hn
 rcases h2 with ⟨_,h2⟩ | ⟨b,rfl,h4⟩
 ·exact absurd (List.append_eq_nil_iff.1 h2).2 hz
 ·rw [List.length_append] at h1
  exact ⟨b,hp',fp,h1, .inr ⟨b,by rw [List.length_append],h4⟩,h3⟩
abbrev rgSt (mp:Nat) (ask:List AV) (l:AV) (most:Int) (es:AV) (N i:Nat):List TV:=[J,J, .v (.ptr mp 0),J, .bx ask,J, .v l,J,J,J, .v (.int .i64 most)]++List.replicate 27 J++[.v es, .v (AI N), .v (AI i)]++List.replicate 37 J
theorem rg_n {m:Int} {fl mp b N i:Nat} {hp:List Blk} {xs:List AV} {f t lim:Int} {asc has:Bool} {a:Ea} {u:Int} {k1:AV} {s:Bs} {l:AV} {most:Int} (hb:blkCells hp b=some (flat xs)) (ha:AggN 3 xs) (hx:xs[i]?=some (.agg [.int .i64 u,k1, .str s])) (hN:N≤xs.length) (hi:i < N) (hN2:N < 100000) (hw:∀ fl,evI (cfg m) fl 84 [.agg (askC f t asc lim has a), .agg [.int .i64 u,k1, .str s]] hp=some (.bool false,hp)):LoopS (cfg m) fl 33 (bodyAt (cfg m) 33 10) 10 ⟨rgSt mp (askC f t asc lim has a) l most (.arr 3 b 0 N) N i,hp⟩ ⟨rgSt mp (askC f t asc lim has a) l most (.arr 3 b 0 N) N (i + 1),hp⟩:=by
 exact loopStepS (St.mk ([J,J,TV.v (AV.ptr mp 0),J,TV.bx [AI f,AI t,AV.bool asc,AI lim,AV.bool has,AI a.fst,a.snd.fst,AV.str a.snd.snd],J,TV.v l,J,J,J,TV.v (AI most),J,J,J,J,J,J,J,J,J,J,J,J,J,J,J,J,J,J,J,J,J,J,J,J,J,J,J,TV.v (AV.arr 3 b 0 N),TV.v (AI N),TV.v (AI ((↑i:Int) + 1))]++Jn 37) hp) [.b 10 0 (decide_eq_true ((show (↑i:Int) < (↑N:Int) from (by omega)))), .a 11 0 (indexAddr_row (C:=cfg m) (t:=55) (sz:=3) (b:=b) (by kernel_rfl) hi), .m 11 1 (load_row (C:=cfg m) (t:=74) hb hx ha (by kernel_rfl)), .c 12 2 (hw (fl)), .w 15 0 IntKind.i64 ((↑i:Int) + 1) (wrap_i64' (by omega))] (by kernel_rfl) rfl
theorem rg_m {m:Int} {fl mp b N i:Nat} {hp:List Blk} {xs:List AV} {f t lim:Int} {asc has:Bool} {a:Ea} {u:Int} {k1:AV} {s:Bs} {l:AV} {most:Int} (hb:blkCells hp b=some (flat xs)) (ha:AggN 3 xs) (hx:xs[i]?=some (.agg [.int .i64 u,k1, .str s])) (hN:N≤xs.length) (hi:i < N) (hN2:N < 100000) (hw:∀ fl,evI (cfg m) fl 84 [.agg (askC f t asc lim has a), .agg [.int .i64 u,k1, .str s]] hp=some (.bool true,hp)) (hm:∀ fl,evI (cfg m) fl 19 [.ptr mp 0,k1] hp=some (.bool false,hp)):LoopS (cfg m) fl 33 (bodyAt (cfg m) 33 10) 10 ⟨rgSt mp (askC f t asc lim has a) l most (.arr 3 b 0 N) N i,hp⟩ ⟨rgSt mp (askC f t asc lim has a) l most (.arr 3 b 0 N) N (i + 1),hp⟩:=by
 exact loopStepS (St.mk ([J,J,TV.v (AV.ptr mp 0),J,TV.bx [AI f,AI t,AV.bool asc,AI lim,AV.bool has,AI a.fst,a.snd.fst,AV.str a.snd.snd],J,TV.v l,J,J,J,TV.v (AI most),J,J,J,J,J,J,J,J,J,J,J,J,J,J,J,J,J,J,J,J,J,J,J,J,J,J,J,TV.v (AV.arr 3 b 0 N),TV.v (AI N),TV.v (AI ((↑i:Int) + 1))]++Jn 37) hp) [.b 10 0 (decide_eq_true ((show (↑i:Int) < (↑N:Int) from (by omega)))), .a 11 0 (indexAddr_row (C:=cfg m) (t:=55) (sz:=3) (b:=b) (by kernel_rfl) hi), .m 11 1 (load_row (C:=cfg m) (t:=74) hb hx ha (by kernel_rfl)), .c 12 2 (hw (fl)), .c 12 7 (hm (fl)), .w 15 0 IntKind.i64 ((↑i:Int) + 1) (wrap_i64' (by omega))] (by kernel_rfl) rfl
theorem rg_y0 {m:Int} {fl n0 mp b N i:Nat} {hp:List Blk} {xs vs:List AV} {f t lim:Int} {asc has:Bool} {a:Ea} {u:Int} {k1:AV} {s:Bs} {l:AV} {most:Int} (hb:blkCells hp b=some (flat xs)) (ha:AggN 3 xs) (hx:xs[i]?=some (.agg [.int .i64 u,k1, .str s])) (hN:N≤xs.length) (hi:i < N) (hN2:N < 100000) (hw:∀ fl,evI (cfg m) fl 84 [.agg (askC f t asc lim has a), .agg [.int .i64 u,k1, .str s]] hp=some (.bool true,hp)) (hm:∀ fl,evI (cfg m) fl 19 [.ptr mp 0,k1] hp=some (.bool true,hp)) (hc:∀ fl hp,evI (cfg m) fl 75 [k1] hp=some (.nilS,hp)) (ho:RowN n0 3 hp l vs) (hlen:(vs.length + [AV.agg [.int .i64 u, .nilS, .str s]].length) * 48≤140737488355328) (hag:AggN 3 [AV.agg [.int .i64 u, .nilS, .str s]]) (hf:fl≤n0) (hn:n0≤hp.length):∃ b' hp',LoopS (cfg m) fl 33 (bodyAt (cfg m) 33 10) 10 ⟨rgSt mp (askC f t asc lim has a) l most (.arr 3 b 0 N) N i,hp⟩ ⟨rgSt mp (askC f t asc lim has a) (.arr 3 b' 0 (vs.length + [AV.agg [.int .i64 u, .nilS, .str s]].length)) most (.arr 3 b 0 N) N (i + 1),hp'⟩∧RowN n0 3 hp' (.arr 3 b' 0 (vs.length + [AV.agg [.int .i64 u, .nilS, .str s]].length)) (vs++[.agg [.int .i64 u, .nilS, .str s]])∧PreN n0 hp hp':=by
 obtain ⟨b1,hp'2,fp3,e4,h5,h6⟩:=(app_e (C:=cfg m) (y:=AV.lit 3 Own.exact [AV.agg [AI u,AV.nilS,AV.str s]]) (t:=55) ho (by kernel_rfl) hag (by simp_all;done) (by kernel_rfl) hlen hf hn)
 exact ⟨_,hp'2,loopStepS (St.mk ([J,J,TV.v (AV.ptr mp 0),J,TV.bx [AI f,AI t,AV.bool asc,AI lim,AV.bool has,AI a.fst,a.snd.fst,AV.str a.snd.snd],J,TV.v (AV.arr 3 b1 0 (vs.length + [AV.agg [AI u,AV.nilS,AV.str s]].length)),J,J,J,TV.v (AI most),J,J,J,J,J,J,J,J,J,J,J,J,J,J,J,J,J,J,J,J,J,J,J,J,J,J,J,TV.v (AV.arr 3 b 0 N),TV.v (AI N),TV.v (AI ((↑i:Int) + 1))]++Jn 37) hp'2) [.b 10 0 (decide_eq_true ((show (↑i:Int) < (↑N:Int) from (by omega)))), .a 11 0 (indexAddr_row (C:=cfg m) (t:=55) (sz:=3) (b:=b) (by kernel_rfl) hi), .m 11 1 (load_row (C:=cfg m) (t:=74) hb hx ha (by kernel_rfl)), .c 12 2 (hw (fl)), .c 12 7 (hm (fl)), .c 13 2 (hc (fl) (hp)), .m 14 3 e4, .w 15 0 IntKind.i64 ((↑i:Int) + 1) (wrap_i64' (by omega))] (by kernel_rfl) rfl,by assumption,by assumption⟩
theorem rg_y1 {m:Int} {fl n0 mp b N i:Nat} {hp:List Blk} {xs vs:List AV} {f t lim:Int} {asc has:Bool} {a:Ea} {u:Int} {k1:AV} {ps:List AV} {s:Bs} {l:AV} {most:Int} (hb:blkCells hp b=some (flat xs)) (ha:AggN 3 xs) (hx:xs[i]?=some (.agg [.int .i64 u,k1, .str s])) (hN:N≤xs.length) (hi:i < N) (hN2:N < 100000) (hw:∀ fl,evI (cfg m) fl 84 [.agg (askC f t asc lim has a), .agg [.int .i64 u,k1, .str s]] hp=some (.bool true,hp)) (hm:∀ fl,evI (cfg m) fl 19 [.ptr mp 0,k1] hp=some (.bool true,hp)) (hc:∀ fl hp,evI (cfg m) fl 75 [k1] hp=some ((.lit 2 .sealed ps),hp)) (ho:RowN n0 3 hp l vs) (hlen:(vs.length + [AV.agg [.int .i64 u,(.lit 2 .sealed ps), .str s]].length) * 48≤140737488355328) (hag:AggN 3 [AV.agg [.int .i64 u,(.lit 2 .sealed ps), .str s]]) (hf:fl≤n0) (hn:n0≤hp.length):∃ b' hp',LoopS (cfg m) fl 33 (bodyAt (cfg m) 33 10) 10 ⟨rgSt mp (askC f t asc lim has a) l most (.arr 3 b 0 N) N i,hp⟩ ⟨rgSt mp (askC f t asc lim has a) (.arr 3 b' 0 (vs.length + [AV.agg [.int .i64 u,(.lit 2 .sealed ps), .str s]].length)) most (.arr 3 b 0 N) N (i + 1),hp'⟩∧RowN n0 3 hp' (.arr 3 b' 0 (vs.length + [AV.agg [.int .i64 u,(.lit 2 .sealed ps), .str s]].length)) (vs++[.agg [.int .i64 u,(.lit 2 .sealed ps), .str s]])∧PreN n0 hp hp':=by
 obtain ⟨b1,hp'2,fp3,e4,h5,h6⟩:=(app_e (C:=cfg m) (y:=AV.lit 3 Own.exact [AV.agg [AI u,AV.lit 2 Own.sealed ps,AV.str s]]) (t:=55) ho (by kernel_rfl) hag (by simp_all;done) (by kernel_rfl) hlen hf hn)
 exact ⟨_,hp'2,loopStepS (St.mk ([J,J,TV.v (AV.ptr mp 0),J,TV.bx [AI f,AI t,AV.bool asc,AI lim,AV.bool has,AI a.fst,a.snd.fst,AV.str a.snd.snd],J,TV.v (AV.arr 3 b1 0 (vs.length + [AV.agg [AI u,AV.lit 2 Own.sealed ps,AV.str s]].length)),J,J,J,TV.v (AI most),J,J,J,J,J,J,J,J,J,J,J,J,J,J,J,J,J,J,J,J,J,J,J,J,J,J,J,TV.v (AV.arr 3 b 0 N),TV.v (AI N),TV.v (AI ((↑i:Int) + 1))]++Jn 37) hp'2) [.b 10 0 (decide_eq_true ((show (↑i:Int) < (↑N:Int) from (by omega)))), .a 11 0 (indexAddr_row (C:=cfg m) (t:=55) (sz:=3) (b:=b) (by kernel_rfl) hi), .m 11 1 (load_row (C:=cfg m) (t:=74) hb hx ha (by kernel_rfl)), .c 12 2 (hw (fl)), .c 12 7 (hm (fl)), .c 13 2 (hc (fl) (hp)), .m 14 3 e4, .w 15 0 IntKind.i64 ((↑i:Int) + 1) (wrap_i64' (by omega))] (by kernel_rfl) rfl,by assumption,by assumption⟩
theorem rg_y2 {m:Int} {fl n0 mp b N i:Nat} {hp:List Blk} {xs vs:List AV} {f t lim:Int} {asc has:Bool} {a:Ea} {u:Int} {k1:AV} {ps:List AV} {s:Bs} {l:AV} {most:Int} (hb:blkCells hp b=some (flat xs)) (ha:AggN 3 xs) (hx:xs[i]?=some (.agg [.int .i64 u,k1, .str s])) (hN:N≤xs.length) (hi:i < N) (hN2:N < 100000) (hw:∀ fl,evI (cfg m) fl 84 [.agg (askC f t asc lim has a), .agg [.int .i64 u,k1, .str s]] hp=some (.bool true,hp)) (hm:∀ fl,evI (cfg m) fl 19 [.ptr mp 0,k1] hp=some (.bool true,hp)) (hc:∀ fl hp,evI (cfg m) fl 75 [k1] hp=some ((.lit 2 .exact ps),hp)) (ho:RowN n0 3 hp l vs) (hlen:(vs.length + [AV.agg [.int .i64 u,(.lit 2 .exact ps), .str s]].length) * 48≤140737488355328) (hag:AggN 3 [AV.agg [.int .i64 u,(.lit 2 .exact ps), .str s]]) (hf:fl≤n0) (hn:n0≤hp.length):∃ b' hp',LoopS (cfg m) fl 33 (bodyAt (cfg m) 33 10) 10 ⟨rgSt mp (askC f t asc lim has a) l most (.arr 3 b 0 N) N i,hp⟩ ⟨rgSt mp (askC f t asc lim has a) (.arr 3 b' 0 (vs.length + [AV.agg [.int .i64 u,(.lit 2 .exact ps), .str s]].length)) most (.arr 3 b 0 N) N (i + 1),hp'⟩∧RowN n0 3 hp' (.arr 3 b' 0 (vs.length + [AV.agg [.int .i64 u,(.lit 2 .exact ps), .str s]].length)) (vs++[.agg [.int .i64 u,(.lit 2 .exact ps), .str s]])∧PreN n0 hp hp':=by
 obtain ⟨b1,hp'2,fp3,e4,h5,h6⟩:=(app_e (C:=cfg m) (y:=AV.lit 3 Own.exact [AV.agg [AI u,AV.lit 2 Own.exact ps,AV.str s]]) (t:=55) ho (by kernel_rfl) hag (by simp_all;done) (by kernel_rfl) hlen hf hn)
 exact ⟨_,hp'2,loopStepS (St.mk ([J,J,TV.v (AV.ptr mp 0),J,TV.bx [AI f,AI t,AV.bool asc,AI lim,AV.bool has,AI a.fst,a.snd.fst,AV.str a.snd.snd],J,TV.v (AV.arr 3 b1 0 (vs.length + [AV.agg [AI u,AV.lit 2 Own.exact ps,AV.str s]].length)),J,J,J,TV.v (AI most),J,J,J,J,J,J,J,J,J,J,J,J,J,J,J,J,J,J,J,J,J,J,J,J,J,J,J,TV.v (AV.arr 3 b 0 N),TV.v (AI N),TV.v (AI ((↑i:Int) + 1))]++Jn 37) hp'2) [.b 10 0 (decide_eq_true ((show (↑i:Int) < (↑N:Int) from (by omega)))), .a 11 0 (indexAddr_row (C:=cfg m) (t:=55) (sz:=3) (b:=b) (by kernel_rfl) hi), .m 11 1 (load_row (C:=cfg m) (t:=74) hb hx ha (by kernel_rfl)), .c 12 2 (hw (fl)), .c 12 7 (hm (fl)), .c 13 2 (hc (fl) (hp)), .m 14 3 e4, .w 15 0 IntKind.i64 ((↑i:Int) + 1) (wrap_i64' (by omega))] (by kernel_rfl) rfl,by assumption,by assumption⟩
abbrev rgEnd (ask:List AV) (l:AV) (most:Int):List TV:=[J,J,J,J, .bx ask,J, .v l,J,J,J, .v (.int .i64 most)]++List.replicate 67 J
theorem rg_x {m:Int} {fl mp N:Nat} {hp:List Blk} {f t lim:Int} {asc has:Bool} {a:Ea} {l es:AV} {most:Int}:LoopI (cfg m) fl 33 (bodyAt (cfg m) 33 10) 10 ⟨rgSt mp (askC f t asc lim has a) l most es N N,hp⟩ (.exit 0) ⟨rgEnd (askC f t asc lim has a) l most,hp⟩:=by
 exact loopEndC (.exit 0) (St.mk ([J,J,J,J,TV.bx [AI f,AI t,AV.bool asc,AI lim,AV.bool has,AI a.fst,a.snd.fst,AV.str a.snd.snd],J,TV.v l,J,J,J,TV.v (AI most)]++Jn 67) hp) [.b 10 0 (decide_eq_false ((show ¬(↑N:Int) < (↑N:Int) from (by omega))))] (by kernel_rfl) (fun h=>by cases h) rfl
def LenE (m:Int) (x:AV) (n:Nat):Prop:=∀ fl ar hp ts,builtinE (cfg m) fl ar ⟨ts,hp⟩ .len [55] [x]=some ⟨.v (.int .i64 (n:Int)),ts,hp, .z⟩
theorem len_e {m:Int} {x:AV} {n:Nat} (h:LenE m x n) {fl:Nat} {ar:Bool} {hp:List Blk}:∀ ts,builtinE (cfg m) fl ar ⟨ts,hp⟩ .len [55] [x]=some ⟨.v (.int .i64 (n:Int)),ts,hp, .z⟩:=fun ts=>h fl ar hp ts
theorem rg_a0n {m:Int} {fl B mp N:Nat} {hp hp1 hp2 hp3:List Blk} {rs es:AV} {c:Nat} {f t lim k q:Int} {has:Bool} {a:Ea} (hc:cloH hp.length hp1=true) (h37:∀ fl,evI (cfg m) fl 37 [.agg (askC f t true lim has a)] hp=some (.bool true,hp)) (h83:evI (cfg m) fl 83 [.ptr B 0] hp=some (rpA false k,hp1)) (hb:blkCells hp1 B=some [rs,AI c,es]) (hes:LenE m es N) (hk:¬ 0 < k) (hlp:LoopI (cfg m) fl 33 (bodyAt (cfg m) 33 10) 10 ⟨rgSt mp (askC f t true lim has a) .nilS lim es N 0,hp1⟩ (.exit 0) ⟨rgEnd (askC f t true lim has a) .nilS lim,hp2⟩) (ht:List.take hp.length hp2=hp1) (hq0:0 < lim) (hw:(bif false then bif decide ((0:Int) < lim) then lim else (0:Int) else bif decide (lim < (0:Int)) then lim else (0:Int))=0):evI (cfg m) fl 33 [.ptr B 0, .agg (askC f t true lim has a), .ptr mp 0] hp=some (.tup [.nilS, .bool false, .int .i64 0],hp1):=by
 exact evX (AV.tup [AV.nilS,AV.bool false,AI 0]) (hp2) [.c 1 1 (h37 (fl)), .c 3 3 h83, .b 7 2 (decide_eq_false (hk)), .m 9 3 (load_ok (C:=cfg m) (t:=55) (off:=2) (x:=es) hb (by kernel_rfl)), .m 9 4 (len_e (m:=m) hes (fl:=fl) (ar:=true) (hp:=hp1)), .l 10 hlp, .b 18 3 (decide_eq_false ((show ¬0 > lim from (by omega)))), .wc 19 4 IntKind.i64 (0) (hp2) hw] (by kernel_rfl) (tlM (by kernel_rfl) rfl ht hc (shutT (v:=AV.tup [AV.nilS,AV.bool false,AI 0]) (v':=AV.tup [AV.nilS,AV.bool false,AI 0]) (by kernel_rfl))) rfl
theorem rg_a0v {m:Int} {fl B mp N:Nat} {hp hp1 hp2 hp3:List Blk} {rs es:AV} {c:Nat} {f t lim k q:Int} {has:Bool} {a:Ea} {b' n w:Nat} {r:Bool} {v:AV} {xs:List AV} (hc:cloH hp.length hp1=true) (h37:∀ fl,evI (cfg m) fl 37 [.agg (askC f t true lim has a)] hp=some (.bool true,hp)) (h83:evI (cfg m) fl 83 [.ptr B 0] hp=some (rpA false k,hp1)) (hb:blkCells hp1 B=some [rs,AI c,es]) (hes:LenE m es N) (hk:¬ 0 < k) (hlp:LoopI (cfg m) fl 33 (bodyAt (cfg m) 33 10) 10 ⟨rgSt mp (askC f t true lim has a) .nilS lim es N 0,hp1⟩ (.exit 0) ⟨rgEnd (askC f t true lim has a) (.arr 3 b' 0 n) lim,hp2⟩) (ht:List.take hp.length hp2=hp1) (hw:(bif false then bif decide ((n:Int) < lim) then lim else (n:Int) else bif decide (lim < (n:Int)) then lim else (n:Int))=(w:Int)) (hw2:w≤n) (hr:decide ((n:Int) > lim)=r) (hbv:blkCells hp2 b'=some xs) (hs:∀ r:Bool,shutV hp2 hp.length 100000 (.tup [.arr 3 b' 0 w, .bool r, .int .i64 0])=some (.tup [v, .bool r, .int .i64 0])):evI (cfg m) fl 33 [.ptr B 0, .agg (askC f t true lim has a), .ptr mp 0] hp=some (.tup [v, .bool r, .int .i64 0],hp1):=by
 rcases bcases (r) with h1 | h1
 ·exact evX (AV.tup [AV.arr 3 b' 0 w,AV.bool true,AI 0]) (hp2) [.c 1 1 (h37 (fl)), .c 3 3 h83, .b 7 2 (decide_eq_false (hk)), .m 9 3 (load_ok (C:=cfg m) (t:=55) (off:=2) (x:=es) hb (by kernel_rfl)), .m 9 4 (len_e (m:=m) hes (fl:=fl) (ar:=true) (hp:=hp1)), .l 10 hlp, .b 18 3 ((hr).trans h1), .wc 19 4 IntKind.i64 ((↑w:Int)) (hp2) hw, .s 19 5 (hp2) Fp.hr (slice_row_le (C:=cfg m) (t:=55) (sz:=3) (k:=IntKind.i64) hbv (by kernel_rfl) hw2)] (by kernel_rfl) (tlM (by kernel_rfl) rfl ht hc (hs (true))) (by simp_all)
 ·exact evX (AV.tup [AV.arr 3 b' 0 w,AV.bool false,AI 0]) (hp2) [.c 1 1 (h37 (fl)), .c 3 3 h83, .b 7 2 (decide_eq_false (hk)), .m 9 3 (load_ok (C:=cfg m) (t:=55) (off:=2) (x:=es) hb (by kernel_rfl)), .m 9 4 (len_e (m:=m) hes (fl:=fl) (ar:=true) (hp:=hp1)), .l 10 hlp, .b 18 3 ((hr).trans h1), .wc 19 4 IntKind.i64 ((↑w:Int)) (hp2) hw, .s 19 5 (hp2) Fp.hr (slice_row_le (C:=cfg m) (t:=55) (sz:=3) (k:=IntKind.i64) hbv (by kernel_rfl) hw2)] (by kernel_rfl) (tlM (by kernel_rfl) rfl ht hc (hs (false))) (by simp_all)
theorem rg_a1n {m:Int} {fl B mp N:Nat} {hp hp1 hp2 hp3:List Blk} {rs es:AV} {c:Nat} {f t lim k q:Int} {has:Bool} {a:Ea} (hc:cloH hp.length hp1=true) (h37:∀ fl,evI (cfg m) fl 37 [.agg (askC f t true lim has a)] hp=some (.bool true,hp)) (h83:evI (cfg m) fl 83 [.ptr B 0] hp=some (rpA false k,hp1)) (hb:blkCells hp1 B=some [rs,AI c,es]) (hes:LenE m es N) (hk:0 < k) (hq:(bif false then bif decide (lim < k) then k else lim else bif decide (k < lim) then k else lim)=q) (hlp:LoopI (cfg m) fl 33 (bodyAt (cfg m) 33 10) 10 ⟨rgSt mp (askC f t true lim has a) .nilS q es N 0,hp1⟩ (.exit 0) ⟨rgEnd (askC f t true lim has a) .nilS q,hp2⟩) (ht:List.take hp.length hp2=hp1) (hq0:0 < q) (hw:(bif false then bif decide ((0:Int) < q) then q else (0:Int) else bif decide (q < (0:Int)) then q else (0:Int))=0):evI (cfg m) fl 33 [.ptr B 0, .agg (askC f t true lim has a), .ptr mp 0] hp=some (.tup [.nilS, .bool false, .int .i64 0],hp1):=by
 exact evX (AV.tup [AV.nilS,AV.bool false,AI 0]) (hp2) [.c 1 1 (h37 (fl)), .c 3 3 h83, .b 7 2 (decide_eq_true (hk)), .wc 8 3 IntKind.i64 (q) (hp1) hq, .m 9 3 (load_ok (C:=cfg m) (t:=55) (off:=2) (x:=es) hb (by kernel_rfl)), .m 9 4 (len_e (m:=m) hes (fl:=fl) (ar:=true) (hp:=hp1)), .l 10 hlp, .b 18 3 (decide_eq_false ((show ¬0 > q from (by omega)))), .wc 19 4 IntKind.i64 (0) (hp2) hw] (by kernel_rfl) (tlM (by kernel_rfl) rfl ht hc (shutT (v:=AV.tup [AV.nilS,AV.bool false,AI 0]) (v':=AV.tup [AV.nilS,AV.bool false,AI 0]) (by kernel_rfl))) rfl
theorem rg_a1v {m:Int} {fl B mp N:Nat} {hp hp1 hp2 hp3:List Blk} {rs es:AV} {c:Nat} {f t lim k q:Int} {has:Bool} {a:Ea} {b' n w:Nat} {r:Bool} {v:AV} {xs:List AV} (hc:cloH hp.length hp1=true) (h37:∀ fl,evI (cfg m) fl 37 [.agg (askC f t true lim has a)] hp=some (.bool true,hp)) (h83:evI (cfg m) fl 83 [.ptr B 0] hp=some (rpA false k,hp1)) (hb:blkCells hp1 B=some [rs,AI c,es]) (hes:LenE m es N) (hk:0 < k) (hq:(bif false then bif decide (lim < k) then k else lim else bif decide (k < lim) then k else lim)=q) (hlp:LoopI (cfg m) fl 33 (bodyAt (cfg m) 33 10) 10 ⟨rgSt mp (askC f t true lim has a) .nilS q es N 0,hp1⟩ (.exit 0) ⟨rgEnd (askC f t true lim has a) (.arr 3 b' 0 n) q,hp2⟩) (ht:List.take hp.length hp2=hp1) (hw:(bif false then bif decide ((n:Int) < q) then q else (n:Int) else bif decide (q < (n:Int)) then q else (n:Int))=(w:Int)) (hw2:w≤n) (hr:decide ((n:Int) > q)=r) (hbv:blkCells hp2 b'=some xs) (hs:∀ r:Bool,shutV hp2 hp.length 100000 (.tup [.arr 3 b' 0 w, .bool r, .int .i64 0])=some (.tup [v, .bool r, .int .i64 0])):evI (cfg m) fl 33 [.ptr B 0, .agg (askC f t true lim has a), .ptr mp 0] hp=some (.tup [v, .bool r, .int .i64 0],hp1):=by
 rcases bcases (r) with h1 | h1
 ·exact evX (AV.tup [AV.arr 3 b' 0 w,AV.bool true,AI 0]) (hp2) [.c 1 1 (h37 (fl)), .c 3 3 h83, .b 7 2 (decide_eq_true (hk)), .wc 8 3 IntKind.i64 (q) (hp1) hq, .m 9 3 (load_ok (C:=cfg m) (t:=55) (off:=2) (x:=es) hb (by kernel_rfl)), .m 9 4 (len_e (m:=m) hes (fl:=fl) (ar:=true) (hp:=hp1)), .l 10 hlp, .b 18 3 ((hr).trans h1), .wc 19 4 IntKind.i64 ((↑w:Int)) (hp2) hw, .s 19 5 (hp2) Fp.hr (slice_row_le (C:=cfg m) (t:=55) (sz:=3) (k:=IntKind.i64) hbv (by kernel_rfl) hw2)] (by kernel_rfl) (tlM (by kernel_rfl) rfl ht hc (hs (true))) (by simp_all)
 ·exact evX (AV.tup [AV.arr 3 b' 0 w,AV.bool false,AI 0]) (hp2) [.c 1 1 (h37 (fl)), .c 3 3 h83, .b 7 2 (decide_eq_true (hk)), .wc 8 3 IntKind.i64 (q) (hp1) hq, .m 9 3 (load_ok (C:=cfg m) (t:=55) (off:=2) (x:=es) hb (by kernel_rfl)), .m 9 4 (len_e (m:=m) hes (fl:=fl) (ar:=true) (hp:=hp1)), .l 10 hlp, .b 18 3 ((hr).trans h1), .wc 19 4 IntKind.i64 ((↑w:Int)) (hp2) hw, .s 19 5 (hp2) Fp.hr (slice_row_le (C:=cfg m) (t:=55) (sz:=3) (k:=IntKind.i64) hbv (by kernel_rfl) hw2)] (by kernel_rfl) (tlM (by kernel_rfl) rfl ht hc (hs (false))) (by simp_all)
theorem rg_d0n {m:Int} {fl B mp N:Nat} {hp hp1 hp2 hp3:List Blk} {rs es:AV} {c:Nat} {f t lim k q:Int} {has:Bool} {a:Ea} (hc:cloH hp.length hp1=true) (h37:∀ fl,evI (cfg m) fl 37 [.agg (askC f t false lim has a)] hp=some (.bool true,hp)) (h83:evI (cfg m) fl 83 [.ptr B 0] hp=some (rpA false k,hp1)) (hb:blkCells hp1 B=some [rs,AI c,es]) (hes:LenE m es N) (hk:¬ 0 < k) (hlp:LoopI (cfg m) fl 33 (bodyAt (cfg m) 33 10) 10 ⟨rgSt mp (askC f t false lim has a) .nilS lim es N 0,hp1⟩ (.exit 0) ⟨rgEnd (askC f t false lim has a) .nilS lim,hp2⟩) (h85:evI (cfg m) fl 85 [.nilS] hp2=some (.tup [],hp3)) (ht:List.take hp.length hp3=hp1) (hq0:0 < lim) (hw:(bif false then bif decide ((0:Int) < lim) then lim else (0:Int) else bif decide (lim < (0:Int)) then lim else (0:Int))=0):evI (cfg m) fl 33 [.ptr B 0, .agg (askC f t false lim has a), .ptr mp 0] hp=some (.tup [.nilS, .bool false, .int .i64 0],hp1):=by
 exact evX (AV.tup [AV.nilS,AV.bool false,AI 0]) (hp3) [.c 1 1 (h37 (fl)), .c 3 3 h83, .b 7 2 (decide_eq_false (hk)), .m 9 3 (load_ok (C:=cfg m) (t:=55) (off:=2) (x:=es) hb (by kernel_rfl)), .m 9 4 (len_e (m:=m) hes (fl:=fl) (ar:=true) (hp:=hp1)), .l 10 hlp, .c 17 1 h85, .b 18 3 (decide_eq_false ((show ¬0 > lim from (by omega)))), .wc 19 4 IntKind.i64 (0) (hp3) hw] (by kernel_rfl) (tlM (by kernel_rfl) rfl ht hc (shutT (v:=AV.tup [AV.nilS,AV.bool false,AI 0]) (v':=AV.tup [AV.nilS,AV.bool false,AI 0]) (by kernel_rfl))) rfl
theorem rg_d0v {m:Int} {fl B mp N:Nat} {hp hp1 hp2 hp3:List Blk} {rs es:AV} {c:Nat} {f t lim k q:Int} {has:Bool} {a:Ea} {b' n w:Nat} {r:Bool} {v:AV} {xs:List AV} (hc:cloH hp.length hp1=true) (h37:∀ fl,evI (cfg m) fl 37 [.agg (askC f t false lim has a)] hp=some (.bool true,hp)) (h83:evI (cfg m) fl 83 [.ptr B 0] hp=some (rpA false k,hp1)) (hb:blkCells hp1 B=some [rs,AI c,es]) (hes:LenE m es N) (hk:¬ 0 < k) (hlp:LoopI (cfg m) fl 33 (bodyAt (cfg m) 33 10) 10 ⟨rgSt mp (askC f t false lim has a) .nilS lim es N 0,hp1⟩ (.exit 0) ⟨rgEnd (askC f t false lim has a) (.arr 3 b' 0 n) lim,hp2⟩) (h85:evI (cfg m) fl 85 [(.arr 3 b' 0 n)] hp2=some (.tup [],hp3)) (ht:List.take hp.length hp3=hp1) (hw:(bif false then bif decide ((n:Int) < lim) then lim else (n:Int) else bif decide (lim < (n:Int)) then lim else (n:Int))=(w:Int)) (hw2:w≤n) (hr:decide ((n:Int) > lim)=r) (hbv:blkCells hp3 b'=some xs) (hs:∀ r:Bool,shutV hp3 hp.length 100000 (.tup [.arr 3 b' 0 w, .bool r, .int .i64 0])=some (.tup [v, .bool r, .int .i64 0])):evI (cfg m) fl 33 [.ptr B 0, .agg (askC f t false lim has a), .ptr mp 0] hp=some (.tup [v, .bool r, .int .i64 0],hp1):=by
 rcases bcases (r) with h1 | h1
 ·exact evX (AV.tup [AV.arr 3 b' 0 w,AV.bool true,AI 0]) (hp3) [.c 1 1 (h37 (fl)), .c 3 3 h83, .b 7 2 (decide_eq_false (hk)), .m 9 3 (load_ok (C:=cfg m) (t:=55) (off:=2) (x:=es) hb (by kernel_rfl)), .m 9 4 (len_e (m:=m) hes (fl:=fl) (ar:=true) (hp:=hp1)), .l 10 hlp, .c 17 1 h85, .b 18 3 ((hr).trans h1), .wc 19 4 IntKind.i64 ((↑w:Int)) (hp3) hw, .s 19 5 (hp3) Fp.hr (slice_row_le (C:=cfg m) (t:=55) (sz:=3) (k:=IntKind.i64) hbv (by kernel_rfl) hw2)] (by kernel_rfl) (tlM (by kernel_rfl) rfl ht hc (hs (true))) (by simp_all)
 ·exact evX (AV.tup [AV.arr 3 b' 0 w,AV.bool false,AI 0]) (hp3) [.c 1 1 (h37 (fl)), .c 3 3 h83, .b 7 2 (decide_eq_false (hk)), .m 9 3 (load_ok (C:=cfg m) (t:=55) (off:=2) (x:=es) hb (by kernel_rfl)), .m 9 4 (len_e (m:=m) hes (fl:=fl) (ar:=true) (hp:=hp1)), .l 10 hlp, .c 17 1 h85, .b 18 3 ((hr).trans h1), .wc 19 4 IntKind.i64 ((↑w:Int)) (hp3) hw, .s 19 5 (hp3) Fp.hr (slice_row_le (C:=cfg m) (t:=55) (sz:=3) (k:=IntKind.i64) hbv (by kernel_rfl) hw2)] (by kernel_rfl) (tlM (by kernel_rfl) rfl ht hc (hs (false))) (by simp_all)
theorem rg_d1n {m:Int} {fl B mp N:Nat} {hp hp1 hp2 hp3:List Blk} {rs es:AV} {c:Nat} {f t lim k q:Int} {has:Bool} {a:Ea} (hc:cloH hp.length hp1=true) (h37:∀ fl,evI (cfg m) fl 37 [.agg (askC f t false lim has a)] hp=some (.bool true,hp)) (h83:evI (cfg m) fl 83 [.ptr B 0] hp=some (rpA false k,hp1)) (hb:blkCells hp1 B=some [rs,AI c,es]) (hes:LenE m es N) (hk:0 < k) (hq:(bif false then bif decide (lim < k) then k else lim else bif decide (k < lim) then k else lim)=q) (hlp:LoopI (cfg m) fl 33 (bodyAt (cfg m) 33 10) 10 ⟨rgSt mp (askC f t false lim has a) .nilS q es N 0,hp1⟩ (.exit 0) ⟨rgEnd (askC f t false lim has a) .nilS q,hp2⟩) (h85:evI (cfg m) fl 85 [.nilS] hp2=some (.tup [],hp3)) (ht:List.take hp.length hp3=hp1) (hq0:0 < q) (hw:(bif false then bif decide ((0:Int) < q) then q else (0:Int) else bif decide (q < (0:Int)) then q else (0:Int))=0):evI (cfg m) fl 33 [.ptr B 0, .agg (askC f t false lim has a), .ptr mp 0] hp=some (.tup [.nilS, .bool false, .int .i64 0],hp1):=by
 exact evX (AV.tup [AV.nilS,AV.bool false,AI 0]) (hp3) [.c 1 1 (h37 (fl)), .c 3 3 h83, .b 7 2 (decide_eq_true (hk)), .wc 8 3 IntKind.i64 (q) (hp1) hq, .m 9 3 (load_ok (C:=cfg m) (t:=55) (off:=2) (x:=es) hb (by kernel_rfl)), .m 9 4 (len_e (m:=m) hes (fl:=fl) (ar:=true) (hp:=hp1)), .l 10 hlp, .c 17 1 h85, .b 18 3 (decide_eq_false ((show ¬0 > q from (by omega)))), .wc 19 4 IntKind.i64 (0) (hp3) hw] (by kernel_rfl) (tlM (by kernel_rfl) rfl ht hc (shutT (v:=AV.tup [AV.nilS,AV.bool false,AI 0]) (v':=AV.tup [AV.nilS,AV.bool false,AI 0]) (by kernel_rfl))) rfl
theorem rg_d1v {m:Int} {fl B mp N:Nat} {hp hp1 hp2 hp3:List Blk} {rs es:AV} {c:Nat} {f t lim k q:Int} {has:Bool} {a:Ea} {b' n w:Nat} {r:Bool} {v:AV} {xs:List AV} (hc:cloH hp.length hp1=true) (h37:∀ fl,evI (cfg m) fl 37 [.agg (askC f t false lim has a)] hp=some (.bool true,hp)) (h83:evI (cfg m) fl 83 [.ptr B 0] hp=some (rpA false k,hp1)) (hb:blkCells hp1 B=some [rs,AI c,es]) (hes:LenE m es N) (hk:0 < k) (hq:(bif false then bif decide (lim < k) then k else lim else bif decide (k < lim) then k else lim)=q) (hlp:LoopI (cfg m) fl 33 (bodyAt (cfg m) 33 10) 10 ⟨rgSt mp (askC f t false lim has a) .nilS q es N 0,hp1⟩ (.exit 0) ⟨rgEnd (askC f t false lim has a) (.arr 3 b' 0 n) q,hp2⟩) (h85:evI (cfg m) fl 85 [(.arr 3 b' 0 n)] hp2=some (.tup [],hp3)) (ht:List.take hp.length hp3=hp1) (hw:(bif false then bif decide ((n:Int) < q) then q else (n:Int) else bif decide (q < (n:Int)) then q else (n:Int))=(w:Int)) (hw2:w≤n) (hr:decide ((n:Int) > q)=r) (hbv:blkCells hp3 b'=some xs) (hs:∀ r:Bool,shutV hp3 hp.length 100000 (.tup [.arr 3 b' 0 w, .bool r, .int .i64 0])=some (.tup [v, .bool r, .int .i64 0])):evI (cfg m) fl 33 [.ptr B 0, .agg (askC f t false lim has a), .ptr mp 0] hp=some (.tup [v, .bool r, .int .i64 0],hp1):=by
 rcases bcases (r) with h1 | h1
 ·exact evX (AV.tup [AV.arr 3 b' 0 w,AV.bool true,AI 0]) (hp3) [.c 1 1 (h37 (fl)), .c 3 3 h83, .b 7 2 (decide_eq_true (hk)), .wc 8 3 IntKind.i64 (q) (hp1) hq, .m 9 3 (load_ok (C:=cfg m) (t:=55) (off:=2) (x:=es) hb (by kernel_rfl)), .m 9 4 (len_e (m:=m) hes (fl:=fl) (ar:=true) (hp:=hp1)), .l 10 hlp, .c 17 1 h85, .b 18 3 ((hr).trans h1), .wc 19 4 IntKind.i64 ((↑w:Int)) (hp3) hw, .s 19 5 (hp3) Fp.hr (slice_row_le (C:=cfg m) (t:=55) (sz:=3) (k:=IntKind.i64) hbv (by kernel_rfl) hw2)] (by kernel_rfl) (tlM (by kernel_rfl) rfl ht hc (hs (true))) (by simp_all)
 ·exact evX (AV.tup [AV.arr 3 b' 0 w,AV.bool false,AI 0]) (hp3) [.c 1 1 (h37 (fl)), .c 3 3 h83, .b 7 2 (decide_eq_true (hk)), .wc 8 3 IntKind.i64 (q) (hp1) hq, .m 9 3 (load_ok (C:=cfg m) (t:=55) (off:=2) (x:=es) hb (by kernel_rfl)), .m 9 4 (len_e (m:=m) hes (fl:=fl) (ar:=true) (hp:=hp1)), .l 10 hlp, .c 17 1 h85, .b 18 3 ((hr).trans h1), .wc 19 4 IntKind.i64 ((↑w:Int)) (hp3) hw, .s 19 5 (hp3) Fp.hr (slice_row_le (C:=cfg m) (t:=55) (sz:=3) (k:=IntKind.i64) hbv (by kernel_rfl) hw2)] (by kernel_rfl) (tlM (by kernel_rfl) rfl ht hc (hs (false))) (by simp_all)
theorem ev_0 {m:Int} {fl:Nat} {hp:List Blk}:evI (cfg m) fl 18 [.nilS] hp=some (.tup [.ptr hp.length 0, .int .i64 0],hp++[.cells [.nilS]]):=by
 exact evX (AV.tup [AV.ptr hp.length 0,AI 0]) (hp++[BC [AV.nilS]]) [.l 3 (show LoopI (cfg m) (hp.length) 18 (bodyAt (cfg m) 18 3) 3 (St.mk ([J,J,J,J,TV.v (AV.ptr hp.length 0),J,J,J,J,J,J,TV.v AV.nilS,TV.v (AI 0),TV.v (AI 0)]++Jn 23) (hp++[BC [AV.nilS]])) (.exit 0) (St.mk ([J,J,J,J,TV.v (AV.ptr hp.length 0)]++Jn 32) (hp++[BC [AV.nilS]])) from (loopEndC (.exit 0) (St.mk ([J,J,J,J,TV.v (AV.ptr hp.length 0)]++Jn 32) (hp++[BC [AV.nilS]])) [] (by kernel_rfl) (fun h=>by cases h) rfl))] (by kernel_rfl) (tlN (by kernel_rfl) rfl) rfl
theorem ixn {m:Int} {fl q:Nat} {hp:List Blk}:evI (cfg m) fl 111 [.nilS, .fn (.func 66) [] [.ptr q 0]] hp=some (.int .i64 (-1),hp):=by
 exact evX (AI (-1)) (hp) [.l 2 (show LoopI (cfg m) (hp.length) 111 (bodyAt (cfg m) 111 2) 2 (St.mk ([TV.v AV.nilS,TV.v (AV.fn (Fn.func 66) [] [AV.ptr q 0]),J,J,J,J,J,TV.v (AI 0),TV.v (AI 0)]++Jn 10) hp) (.exit 0) (St.mk ([J]++Jn 18) hp) from (loopEndC (.exit 0) (St.mk ([J]++Jn 18) hp) [] (by kernel_rfl) (fun h=>by cases h) rfl))] (by kernel_rfl) (tlP (by kernel_rfl) rfl (shutT (v:=AI (-1)) (v':=AI (-1)) (by kernel_rfl))) rfl
theorem cfn {m:Int} {fl q:Nat} {hp:List Blk}:evI (cfg m) fl 65 [.nilS, .fn (.func 66) [] [.ptr q 0]] hp=some (.bool false,hp):=by
 exact evX (AV.bool false) (hp) [.c 1 2 (ixn (m:=m) (fl:=hp.length) (q:=q) (hp:=hp))] (by kernel_rfl) (tlP (by kernel_rfl) rfl (shutT (v:=AV.bool false) (v':=AV.bool false) (by kernel_rfl))) rfl
theorem al_n {m:Int} {fl M:Nat} {hp:List Blk} (hM:blkCells hp M=some [.nilS]):evI (cfg m) fl 19 [.ptr M 0, .nilS] hp=some (.bool true,hp):=by
 exact evX (AV.bool true) (hp++[BC [AV.nilS]]) [.m 1 3 (load_ok (C:=cfg m) (t:=156) (b:=M) (off:=0) (hp:=hp++[BC [AV.nilS]]) (cs:=[AV.nilS]) (x:=AV.nilS) (blk_app hM) (by kernel_rfl)), .c 1 5 (cfn (m:=m) (fl:=hp.length) (q:=hp.length) (hp:=hp++[BC [AV.nilS]]))] (by kernel_rfl) (tlP (by kernel_rfl) rfl (shutT (v:=AV.bool true) (v':=AV.bool true) (by kernel_rfl))) rfl
theorem al_l {m:Int} {fl M:Nat} {hp:List Blk} {o:Own} {xs:List AV} (hM:blkCells hp M=some [.nilS]):evI (cfg m) fl 19 [.ptr M 0, .lit 2 o xs] hp=some (.bool true,hp):=by
 exact evX (AV.bool true) (hp++[BC [AV.lit 2 o xs]]) [.m 1 3 (load_ok (C:=cfg m) (t:=156) (b:=M) (off:=0) (hp:=hp++[BC [AV.lit 2 o xs]]) (cs:=[AV.nilS]) (x:=AV.nilS) (blk_app hM) (by kernel_rfl)), .c 1 5 (cfn (m:=m) (fl:=hp.length) (q:=hp.length) (hp:=hp++[BC [AV.lit 2 o xs]]))] (by kernel_rfl) (tlP (by kernel_rfl) rfl (shutT (v:=AV.bool true) (v':=AV.bool true) (by kernel_rfl))) rfl
def wantA (f t:Int) (asc has:Bool) (a e:Ea):Bool:=decide (f≤e.1)&&decide (e.1 < t)&&(!has||decide ((bif asc then ordA a e else ordA e a) < 0))
theorem want_ok {m:Int} {f t lim:Int} {asc has:Bool} {a e:Ea} (ha:has=true→OkE a) (he:OkE e) (hf:Few e):∀ fl hp,evI (cfg m) fl 84 [.agg (askC f t asc lim has a),eA e] hp=some (.bool (wantA f t asc has a e),hp):=fun fl hp=>by
 unfold wantA
 by_cases h:f≤e.1
 ·by_cases g:e.1 < t
  ·rw [decide_eq_true h,decide_eq_true g]
   cases has with
   | false=>exact wa_2 h g
   | true =>
    have hr:=ahead_ok (m:=m) (asc:=asc) (ha rfl) he (.inr hf)
    cases asc with
    | true=>exact wa_3t h g fun fl=>hr fl hp
    | false=>exact wa_3f h g fun fl=>hr fl hp
  ·rw [decide_eq_true h,decide_eq_false g]
   exact wa_1 h g
 ·rw [decide_eq_false h]
  exact wa_0 h
def RevI (xs cur:List Ea) (i:Nat):Prop:=cur.length=xs.length∧∀ k,k < xs.length→cur[k]?=if k < i∨xs.length - i≤k then xs[xs.length - 1 - k]? else xs[k]?
theorem RevI.zero (xs:List Ea):RevI xs xs 0:=⟨rfl,fun k hk=>by rw [if_neg (by omega)]⟩
theorem RevI.done {xs cur:List Ea} {i:Nat} (h:RevI xs cur i) (hi:xs.length≤2 * i + 1):cur=xs.reverse:=by
 apply List.ext_getElem?
 intro k
 rcases Nat.lt_or_ge k xs.length with hk | hk
 ·rw [h.2 k hk,List.getElem?_reverse hk]
  split
  ·rfl
  ·have:k=xs.length - 1 - k:=by omega
   rw [← this]
 ·rw [List.getElem?_eq_none (by rw [h.1];exact hk),List.getElem?_eq_none (by simpa using hk)]
theorem RevI.step {xs cur:List Ea} {i:Nat} {x y:Ea} (h:RevI xs cur i) (hi:2 * i + 1 < xs.length) (hx:cur[i]?=some x) (hy:cur[xs.length - 1 - i]?=some y):RevI xs ((cur.set i y).set (xs.length - 1 - i) x) (i + 1):=by
 have e1:=h.2 i (by omega)
 have e2:=h.2 (xs.length - 1 - i) (by omega)
 rw [if_neg (by omega),hx] at e1
 rw [if_neg (by omega),hy] at e2
 refine ⟨by simp [h.1],fun k hk => ?_⟩
 rw [List.getElem?_set,List.getElem?_set,List.length_set,h.1]
 by_cases k1:xs.length - 1 - i=k
 ·subst k1
  rw [if_pos rfl,if_pos (by omega),if_pos (by omega),e1]
  congr 1;omega
 ·rw [if_neg k1]
  by_cases k2:i=k
  ·subst k2
   rw [if_pos rfl,if_pos (by omega),if_pos (by omega),e2]
  ·rw [if_neg k2,h.2 k hk]
   by_cases k3:k < i∨xs.length - i≤k
   ·rw [if_pos k3,if_pos (by omega)]
   ·rw [if_neg k3,if_neg (by omega)]
theorem rv_loop {m:Int} {fl b N:Nat} {xs:List Ea} (hN:xs.length=N + 1) (hN2:N < 100) (hf:fl≤b):∀ (d i:Nat) (hp:List Blk) (cur:List Ea),d + i=N + 1→i≤N→2 * i≤N + 1→RevI xs cur i→blkCells hp b=some (flat (cur.map eA)) →
  ∃ hp',LoopI (cfg m) fl 85 (bodyAt (cfg m) 85 1) 1 ⟨rvSt b (N + 1) i (N - i),hp⟩ (.exit 0) ⟨List.replicate 28 J,hp'⟩∧blkCells hp' b=some (flat (xs.reverse.map eA))∧PreN b hp hp'
 | 0,i,hp,cur,hd,hi,hi2,hr,hb=>by omega
 | d + 1,i,hp,cur,hd,hi,hi2,hr,hb=>by
  by_cases hlt:2 * i < N
  ·have hx:i < cur.length:=by rw [hr.1];omega
   have hy:N - i < cur.length:=by rw [hr.1];omega
   have ex:(cur.map eA)[i]?=some (eA cur[i]):=by rw [List.getElem?_map,List.getElem?_eq_getElem hx];rfl
   have ey:(cur.map eA)[N - i - 1 + 1]?=some (eA cur[N - i]):=by
    rw [show N - i - 1 + 1=N - i by omega,List.getElem?_map,List.getElem?_eq_getElem hy];rfl
   have hl:N + 1≤(cur.map eA).length:=by simp [hr.1];omega
   have st:=rv_i (m:=m) (fl:=fl) (b:=b) (N:=N + 1) (i:=i) (j:=N - i - 1) (hp:=hp) (wrap_p (by omega)) hb aggE (aggE.set rfl) (by simpa using hl) hl (by omega) ex ey (by omega) (by omega) hf
   have e1:((cur.map eA).set i (eA cur[N - i])).set (N - i - 1 + 1) (eA cur[i])=((cur.set i cur[N - i]).set (xs.length - 1 - i) cur[i]).map eA:=by
    rw [← List.map_set,← List.map_set,show N - i - 1 + 1=xs.length - 1 - i by omega]
   rw [show (N - i - 1 + 1)=N - i by omega] at st e1
   rw [e1] at st
   have hr':=hr.step (x:=cur[i]) (y:=cur[N - i]) (by omega) (List.getElem?_eq_getElem hx) (by rw [show xs.length - 1 - i=N - i by omega];exact List.getElem?_eq_getElem hy)
   obtain ⟨hp',g1,g2,g3⟩:=rv_loop hN hN2 hf d (i + 1) _ _ (by omega) (by omega) (by omega) hr' (blk_set (Nat.lt_of_lt_of_eq (blk_lt hb) (setAt_length _ _ _).symm))
   rw [show N - (i + 1)=N - i - 1 by omega] at g1
   exact ⟨hp',st _ _ g1,g2,((PreN.set (Nat.le_refl _)).trans (PreN.set (Nat.le_refl _))).trans g3⟩
  ·have:=hr.done (by omega)
   subst this
   exact ⟨hp,rv_x (by omega),hb, .refl _ _⟩
theorem rev_ok {m:Int} {fl b:Nat} {hp:List Blk} {xs:List Ea} (h0:xs≠[]) (hl:xs.length < 100) (hf:fl≤b) (hb:blkCells hp b=some (flat (xs.map eA))):∃ hp',evI (cfg m) fl 85 [.arr 3 b 0 xs.length] hp=some (.tup [],hp')∧blkCells hp' b=some (flat (xs.reverse.map eA))∧PreN b hp hp':=by
 obtain ⟨N,hN⟩:∃ N,xs.length=N + 1:=⟨xs.length - 1,by have:=List.length_pos_iff.2 h0;omega⟩
 obtain ⟨hp',g1,g2,g3⟩:=rv_loop (m:=m) (fl:=fl) (b:=b) hN (by omega) hf (N + 1) 0 hp xs rfl (Nat.zero_le _) (by omega) (.zero xs) hb
 rw [hN]
 exact ⟨hp',rv_w (wrap_p (by omega)) (by omega) (by simpa using g1),g2,g3⟩
theorem cloH_get {n b:Nat} {hp:List Blk} {cs:List AV} (h:cloH n hp=true) (hb:blkCells hp b=some cs):cloAs n cs=true:=by
 unfold blkCells at hb
 rw [getAt_eq] at hb
 split at hb
 ·rename_i h1
  cases hb
  exact List.all_eq_true.1 h _ (List.mem_of_getElem? h1)
 ·cases hb
theorem preN_take {n:Nat} {hp hp':List Blk} (h:PreN n hp hp') (hn:hp.length=n):hp'.take n=hp:=by
 apply List.ext_getElem?
 intro i
 rcases Nat.lt_or_ge i n with hi | hi
 ·rw [List.getElem?_take_of_lt hi,← getAt_eq,← getAt_eq];exact h.2 i hi
 ·rw [List.getElem?_eq_none (by rw [List.length_take];omega),List.getElem?_eq_none (by omega)]
def Thru (m:Int) (M K L:Nat) (hp:List Blk) (g:Ea→Bool):Prop:=L≤hp.length∧∀ hp',L≤hp'.length→(∀ c,K≤c→c < L→getAt hp' c=getAt hp c)→∀ e,OkE e→Few e→(∀ d,Plain (d + 5) (eA e))→∀ fl,evI (cfg m) fl 19 [.ptr M 0,e.2.1] hp'=some (.bool (g e),hp')
theorem Thru.fr {m:Int} {M K L:Nat} {hp hp':List Blk} {g:Ea→Bool} (h:Thru m M K L hp g) (hl:L≤hp'.length) (hf:∀ c,K≤c→c < L→getAt hp' c=getAt hp c):Thru m M K L hp' g:=⟨hl,fun hp'' hl' hf'=>h.2 hp'' hl' fun c h1 h2=>(hf' c h1 h2).trans (hf c h1 h2)⟩
theorem Thru.pre {m:Int} {M K L n:Nat} {hp hp':List Blk} {g:Ea→Bool} (h:Thru m M K L hp g) (hp1:PreN n hp hp') (hn:L≤n):Thru m M K L hp' g:=h.fr (Nat.le_trans h.1 hp1.1) fun c _ h2=>hp1.2 c (by omega)
theorem Thru.set {m:Int} {M K L H:Nat} {hp:List Blk} {g:Ea→Bool} {x:Blk} (h:Thru m M K L hp g) (hH:H < K∨L≤H):Thru m M K L (setAt hp H x) g:=h.fr (by rw [setAt_length];exact h.1) fun c h1 h2=>by
 simp only [getAt_eq,setAt_eq];rw [List.getElem?_set_ne (by omega)]
theorem thru_0 {m:Int} {M:Nat} {hp:List Blk} (hM:blkCells hp M=some [.nilS]):Thru m M M (M + 1) hp fun _=>true:=⟨blk_lt hM,fun hp' hl hf e ho _ _ fl=>by
 have hM':blkCells hp' M=some [.nilS]:=by unfold blkCells;rw [hf M (Nat.le_refl _) (Nat.lt_succ_self _)];exact hM
 rcases ho with ⟨h,_⟩ | ⟨o,h⟩
 ·rw [h];exact al_n hM'
 ·rw [h];exact al_l hM'⟩
theorem rg_loop {m:Int} {fl n0 b M K L N:Nat} {f t lim q:Int} {asc has:Bool} {a:Ea} {zs:List AV} {us:List Ea} {g:Ea→Bool} (hz:AggN 3 zs) (hN:us.length=N) (hN2:N < 100) (ha:has=true→OkE a) (hE:EsOK us) (hf:fl≤n0) (hb0:b < n0) (hL:L≤n0):∀ (d i:Nat) (hp:List Blk) (l:AV) (vs:List Ea),d + i=N→blkCells hp b=some (flat (us.map eA++zs))→Thru m M K L hp g→RowN n0 3 hp l (vs.map eA)→vs=((us.take i).filter fun e=>wantA f t asc has a e&&g e).map clE→n0≤hp.length→(vs=[]→l = .nilS) →
  ∃ hp' l',LoopI (cfg m) fl 33 (bodyAt (cfg m) 33 10) 10 ⟨rgSt M (askC f t asc lim has a) l q (.arr 3 b 0 N) N i,hp⟩ (.exit 0) ⟨rgEnd (askC f t asc lim has a) l' q,hp'⟩∧RowN n0 3 hp' l' (((us.filter fun e=>wantA f t asc has a e&&g e).map clE).map eA)∧PreN n0 hp hp'∧(((us.filter fun e=>wantA f t asc has a e&&g e).map clE)=[]→l' = .nilS)
 | 0,i,hp,l,vs,hd,hb,hM,hl,hv,hn,hl0=>by
  obtain rfl:i=N:=by omega
  rw [← hN,List.take_length] at hv
  subst hv
  exact ⟨hp,l,rg_x,hl, .refl _ _,hl0⟩
 | d + 1,i,hp,l,vs,hd,hb,hM,hl,hv,hn,hl0=>by
  have hi:i < us.length:=by omega
  obtain ⟨h1,h2⟩:=hE.ok _ (List.getElem_mem hi)
  have hpl:=hE.pl _ (List.getElem_mem hi)
  have hx:(us.map eA++zs)[i]?=some (eA us[i]):=by
   rw [List.getElem?_append_left (by simpa using hi),List.getElem?_map,List.getElem?_eq_getElem hi];rfl
  have hag:AggN 3 (us.map eA++zs):=aggE.app hz
  have hNl:N≤(us.map eA++zs).length:=by simp;omega
  have hw:=fun fl=>want_ok (m:=m) (lim:=lim) (f:=f) (t:=t) (asc:=asc) (has:=has) (a:=a) ha h1 h2 fl hp
  have hm:=fun fl=>hM.2 hp hM.1 (fun _ _ _=>rfl) us[i] h1 h2 hpl fl
  have ht:us.take (i + 1)=us.take i++[us[i]]:=by rw [List.take_add_one,List.getElem?_eq_getElem hi];rfl
  have hvl:vs.length≤i:=by
   rw [hv,List.length_map]
   exact Nat.le_trans (List.length_filter_le _ _) (by rw [List.length_take];omega)
  cases hwb:wantA f t asc has a us[i] with
  | false =>
   simp only [hwb] at hw
   have st:=rg_n (m:=m) (fl:=fl) (mp:=M) (l:=l) (most:=q) hb hag hx hNl (by omega) (by omega) hw
   have hv':vs=((us.take (i + 1)).filter fun e=>wantA f t asc has a e&&g e).map clE:=by
    rw [ht,List.filter_append,List.map_append,← hv];simp [List.filter_cons,hwb]
   obtain ⟨hp',l',g1,g2⟩:=rg_loop hz hN hN2 ha hE hf hb0 hL d (i + 1) hp l vs (by omega) hb hM hl hv' hn hl0
   exact ⟨hp',l',st _ _ g1,g2⟩
  | true =>
   simp only [hwb] at hw
   cases hgb:g us[i] with
   | false =>
    simp only [hgb] at hm
    have st:=rg_m (m:=m) (fl:=fl) (mp:=M) (l:=l) (most:=q) hb hag hx hNl (by omega) (by omega) hw hm
    have hv':vs=((us.take (i + 1)).filter fun e=>wantA f t asc has a e&&g e).map clE:=by
     rw [ht,List.filter_append,List.map_append,← hv];simp [List.filter_cons,hwb,hgb]
    obtain ⟨hp',l',g1,g2⟩:=rg_loop hz hN hN2 ha hE hf hb0 hL d (i + 1) hp l vs (by omega) hb hM hl hv' hn hl0
    exact ⟨hp',l',st _ _ g1,g2⟩
   | true =>
    simp only [hgb] at hm
    have hc:=(cl_ok (m:=m) h1 h2).1
    have key:∃ b' hp',LoopS (cfg m) fl 33 (bodyAt (cfg m) 33 10) 10 ⟨rgSt M (askC f t asc lim has a) l q (.arr 3 b 0 N) N i,hp⟩ ⟨rgSt M (askC f t asc lim has a) (.arr 3 b' 0 ((vs.map eA).length + [eA (clE us[i])].length)) q (.arr 3 b 0 N) N (i + 1),hp'⟩∧RowN n0 3 hp' (.arr 3 b' 0 ((vs.map eA).length + [eA (clE us[i])].length)) (vs.map eA++[eA (clE us[i])])∧PreN n0 hp hp':=by
     have e0:eA (clE us[i]) = .agg [.int .i64 us[i].1,clL us[i].2.1, .str us[i].2.2]:=rfl
     rw [e0]
     have hl48:∀ y:AV,((vs.map eA).length + [y].length) * 48≤140737488355328:=fun y=>by simp;omega
     have hag1:∀ y:AV,AggN 3 [.agg [.int .i64 us[i].1,y, .str us[i].2.2]]:=fun y v hv=>by
      obtain rfl:v=_:=by simpa using hv
      exact ⟨_,rfl,rfl⟩
     rcases h1 with ⟨e1,_⟩ | ⟨o,e1⟩
     ·have ec:clL us[i].2.1 = .nilS:=by rw [e1];rfl
      rw [ec] at hc ⊢
      exact rg_y0 (m:=m) (mp:=M) (most:=q) hb hag hx hNl (by omega) (by omega) hw hm hc hl (hl48 _) (hag1 _) hf hn
     ·cases hps:(deL us[i].2.1).map pAV with
      | nil =>
       have ec:clL us[i].2.1 = .lit 2 .exact []:=by rw [e1,hps];rfl
       rw [ec] at hc ⊢
       exact rg_y2 (m:=m) (mp:=M) (most:=q) hb hag hx hNl (by omega) (by omega) hw hm hc hl (hl48 _) (hag1 _) hf hn
      | cons p ps =>
       have ec:clL us[i].2.1 = .lit 2 .sealed (p::ps):=by rw [e1,hps];rfl
       rw [ec] at hc ⊢
       exact rg_y1 (m:=m) (mp:=M) (most:=q) hb hag hx hNl (by omega) (by omega) hw hm hc hl (hl48 _) (hag1 _) hf hn
    obtain ⟨b',hp',st,k1,k2⟩:=key
    have ev:vs.map eA++[eA (clE us[i])]=(vs++[clE us[i]]).map eA:=by simp
    rw [ev] at k1
    have hv':vs++[clE us[i]]=((us.take (i + 1)).filter fun e=>wantA f t asc has a e&&g e).map clE:=by
     rw [ht,List.filter_append,List.map_append,← hv];simp [List.filter_cons,hwb,hgb]
    obtain ⟨hp'',l',g1,g2,g3⟩:=rg_loop hz hN hN2 ha hE hf hb0 hL d (i + 1) hp' _ (vs++[clE us[i]]) (by omega) (preN_blk k2 hb hb0) (hM.pre k2 hL) k1 hv' (Nat.le_trans hn k2.1) (by simp)
    exact ⟨hp'',l',st _ _ g1,g2,k2.trans g3.1,g3.2⟩
def selA (f t:Int) (asc has:Bool) (a:Ea) (g:Ea→Bool) (us:List Ea):List Ea:=(us.filter fun e=>wantA f t asc has a e&&g e).map clE
def tellA (f t:Int) (asc has:Bool) (a:Ea) (g:Ea→Bool) (us:List Ea):List Ea:=bif asc then selA f t asc has a g us else (selA f t asc has a g us).reverse
def mostA (lim k:Int):Int:=if 0 < k∧k < lim then k else lim
def valE:List Ea→AV
 | [] => .nilS
 | T => .lit 3 .sealed (T.map eA)
theorem valE_isl (T:List Ea):IsSl 3 (valE T) (T.map eA):=by
 cases T with
 | nil=>exact .nil _
 | cons x T=>exact .lit _ _ _
theorem selA_pl {f t:Int} {asc has:Bool} {a:Ea} {g:Ea→Bool} {us:List Ea} (hE:EsOK us):∀ e ∈ selA f t asc has a g us,OkE e∧Few e∧∀ d,Plain (d + 5) (eA e):=fun e he=>by
 obtain ⟨x,hx,rfl⟩:=List.mem_map.1 he
 obtain ⟨h1,h2⟩:=hE.ok x (List.mem_filter.1 hx).1
 obtain ⟨a,_,b,c⟩:=clE_ok h1 h2
 exact ⟨a,b,c⟩
theorem selA_len {f t:Int} {asc has:Bool} {a:Ea} {g:Ea→Bool} {us:List Ea}:(selA f t asc has a g us).length≤us.length:=by
 unfold selA;rw [List.length_map];exact List.length_filter_le _ _
theorem tellA_len {f t:Int} {asc has:Bool} {a:Ea} {g:Ea→Bool} {us:List Ea}:(tellA f t asc has a g us).length=(selA f t asc has a g us).length:=by
 cases asc <;> simp [tellA]
theorem lenE_nil {m:Int}:LenE m .nilS 0:=fun fl ar hp ts=>by
 have t:(cfg m).ty 55=some ⟨.slice 74,1,24,[.nilS],false⟩:=by kernel_rfl
 simp only [builtinE,lenE,t];rfl
theorem lenE_arr {m:Int} {b N:Nat}:LenE m (.arr 3 b 0 N) N:=fun fl ar hp ts=>by
 have t:(cfg m).ty 55=some ⟨.slice 74,1,24,[.nilS],false⟩:=by kernel_rfl
 simp only [builtinE,lenE,t];rfl
theorem min_c {x y z:Int} (h:z=if y < x then y else x):(bif false then bif decide (x < y) then y else x else bif decide (y < x) then y else x)=z:=by
 rw [cond_false rfl,h]
 by_cases g:y < x
 ·rw [if_pos g,decide_eq_true g,cond_true rfl]
 ·rw [if_neg g,decide_eq_false g,cond_false rfl]
theorem shut_t3 {hp:List Blk} {k d:Nat} {x y:AV} {r:Bool} {z:Int} (h:shutV hp k (d + 1) x=some y):shutV hp k (d + 2) (.tup [x, .bool r, .int .i64 z])=some (.tup [y, .bool r, .int .i64 z]):=by
 have n1:shutV hp k (d + 1) (.bool r)=some (.bool r):=rfl
 have n2:shutV hp k (d + 1) (.int .i64 z)=some (.int .i64 z):=rfl
 show (mapO (shutV hp k (d + 1)) [x, .bool r, .int .i64 z]).map AV.tup=_
 simp only [mapO,h,n1,n2,Option.map]
theorem shut_told {hp:List Blk} {n0 b w:Nat} {T:List Ea} (h:blkCells hp b=some (flat (T.map eA))) (hb:n0≤b) (hw:w≤T.length) (hw0:0 < w) (hpl:∀ e ∈ T,∀ d,Plain (d + 5) (eA e)) (r:Bool):shutV hp n0 100000 (.tup [.arr 3 b 0 w, .bool r, .int .i64 0])=some (.tup [valE (T.take w), .bool r, .int .i64 0]):=by
 have hl:((T.take w).map eA).length=w:=by simp;omega
 have hr:RowT n0 3 hp (.arr 3 b 0 w) ((T.take w).map eA) := .inr ⟨b,flat ((T.drop w).map eA),by rw [hl],by rw [← flat_app,← List.map_append,List.take_append_drop];exact h,hb,aggE⟩
 have h1:=shut_rowP (k:=n0) (D:=99998) hr (by decide) (fun v hv=>by
  obtain ⟨e,he,rfl⟩:=List.mem_map.1 hv
  exact hpl e (List.mem_of_mem_take he) 99993 hp n0) (Nat.le_refl _)
 have h1':shutV hp n0 99999 (.arr 3 b 0 w)=some (.lit 3 .sealed ((T.take w).map eA)):=h1
 refine shut_t3 (d:=99998) (h1'.trans ?_)
 clear h1 h1' hr
 cases hT:T.take w with
 | nil=>rw [hT] at hl;simp at hl;omega
 | cons x T'=>rfl
def Called (hp:List Blk) (H:Nat) (hp1:List Blk):Prop:=hp1.length=hp.length∧(∀ b,b≠H→getAt hp1 b=getAt hp b)∧cloH hp1.length hp1=true
theorem called_set {n H c:Nat} {hp:List Blk} {rp es:AV} (hb:blkCells hp H=some [rp,AI c,es]) (hclo:cloH hp.length hp=true):Called hp H (setAt hp H (.cells [rp,AI (c + 1),es])):=by
 refine ⟨setAt_length _ _ _,fun b h => ?_, ?_⟩
 ·simp only [getAt_eq,setAt_eq];rw [List.getElem?_set_ne (Ne.symm h)]
 ·rw [setAt_length]
  have:=cloH_get hclo hb
  rw [cloAs,cloAs,cloAs,Bool.and_eq_true,Bool.and_eq_true,Bool.and_eq_true] at this
  exact cloH_setC hclo (by rw [cloAs,cloAs,cloAs,this.1,this.2.2.1];rfl)
theorem rep_set {n H c:Nat} {hp:List Blk} {rp es:AV} {us:List Ea} (hb:blkCells hp H=some [rp,AI c,es]) (h2:RowE n hp es us) (h3:n≤H) (h4:EsOK us) (h5:∀ b,es = .arr 3 b 0 us.length→b≠H):Rep n (setAt hp H (.cells [rp,AI (c + 1),es])) H rp (c + 1) us:=by
 refine ⟨es,blk_set (blk_lt hb), ?_,h3,h4,h5⟩
 rcases h2 with h2 | ⟨b,zs,k1,k2,k3,k4⟩
 ·exact .inl h2
 ·exact .inr ⟨b,zs,k1,blk_set_ne (Ne.symm (h5 b k1)) k2,k3,k4⟩
theorem range_ok {m:Int} {fl n H M K L c:Nat} {hp:List Blk} {rp:AV} {ws:List AV} {us:List Ea} {f t lim k:Int} {asc has:Bool} {a:Ea} {g:Ea→Bool} (hR:Rep n hp H rp c us) (hn:us.length < 20) (hf:fl≤n) (hM:Thru m M K L hp g) (hHM:H < K∨L≤H) (hft:f < t) (hlim:0 < lim) (ha:has=true→OkE a) (hrs:IsSl 2 rp ws) (hrep:(c < ws.length∧ws[c]?=some (rpA false k))∨(ws.length≤c∧k=0)) (hc:c < 1000000) (hclo:cloH hp.length hp=true) :
  ∃ hp1,evI (cfg m) fl 33 [.ptr H 0, .agg (askC f t asc lim has a), .ptr M 0] hp=some (.tup [valE ((tellA f t asc has a g us).take (mostA lim k).toNat), .bool (decide (((tellA f t asc has a g us).length:Int) > mostA lim k)), .int .i64 0],hp1)∧Rep n hp1 H rp (c + 1) us∧Called hp H hp1:=by
 obtain ⟨es,hb,h2,h3,h4,h5⟩:=hR
 have hcall:=called_set (n:=n) hb hclo
 have hrep':=rep_set hb h2 h3 h4 h5
 refine ⟨setAt hp H (.cells [rp,AI (c + 1),es]), ?_,hrep',hcall⟩
 have h37:∀ fl,evI (cfg m) fl 37 [.agg (askC f t asc lim has a)] hp=some (.bool true,hp):=fun fl=>ar_t hft hlim
 have h83:evI (cfg m) fl 83 [.ptr H 0] hp=some (rpA false k,setAt hp H (.cells [rp,AI (c + 1),es])):=by
  rcases hrep with ⟨e1,e2⟩ | ⟨e1,rfl⟩
  ·exact ca_i hb hrs e2 e1 hc (Nat.le_trans hf h3)
  ·exact ca_o hb hrs e1 hc (Nat.le_trans hf h3)
 have hlt:=blk_lt hb
 have hl1:(setAt hp H (Blk.cells [rp,AI (c + 1),es])).length=hp.length:=setAt_length _ _ _
 have hb1:blkCells (setAt hp H (.cells [rp,AI (c + 1),es])) H=some [rp,AI (c + 1),es]:=blk_set hlt
 have hM1:Thru m M K L (setAt hp H (.cells [rp,AI (c + 1),es])) g:=hM.set hHM
 have hclo1:cloH hp.length (setAt hp H (.cells [rp,AI (c + 1),es]))=true:=by rw [← hl1];exact hcall.2.2
 generalize hpE:setAt hp H (Blk.cells [rp,AI (c + 1),es])=hp1 at *
 have hq:mostA lim k > 0:=by unfold mostA;split <;> omega
 have hloop:∃ hp2 l',LenE m es us.length∧LoopI (cfg m) fl 33 (bodyAt (cfg m) 33 10) 10 ⟨rgSt M (askC f t asc lim has a) .nilS (mostA lim k) es us.length 0,hp1⟩ (.exit 0) ⟨rgEnd (askC f t asc lim has a) l' (mostA lim k),hp2⟩∧RowN hp.length 3 hp2 l' ((selA f t asc has a g us).map eA)∧PreN hp.length hp1 hp2∧(selA f t asc has a g us=[]→l' = .nilS):=by
  rcases hrep'.elim fun e he=>(show RowE n hp1 es us from by
   obtain ⟨q1,q2,_⟩:=he
   rw [hb1] at q1
   cases q1;exact q2) with ⟨rfl,rfl⟩ | ⟨b,zs,rfl,k2,k3,k4⟩
  ·exact ⟨hp1, .nilS,lenE_nil,rg_x, .inl ⟨rfl,rfl⟩, .refl _ _,fun _=>rfl⟩
  ·obtain ⟨hp2,l',g1,g2,g3⟩:=rg_loop (m:=m) (fl:=fl) (n0:=hp.length) (f:=f) (t:=t) (lim:=lim) (q:=mostA lim k) (asc:=asc) (has:=has) (a:=a) (g:=g) k4 rfl (by omega) ha h4 (by omega) (by rw [← hl1];exact blk_lt k2) hM.1 us.length 0 hp1 .nilS [] rfl k2 hM1 (.nil _ _ _) rfl (by omega) (fun _=>rfl)
   exact ⟨hp2,l',lenE_arr,g1,g2,g3⟩
 obtain ⟨hp2,l',hes,hlp,hl',hpre,hl0⟩:=hloop
 have ht2:List.take hp.length hp2=hp1:=preN_take hpre hl1
 have hpl:=selA_pl (f:=f) (t:=t) (asc:=asc) (has:=has) (a:=a) (g:=g) h4
 have hsl:=selA_len (f:=f) (t:=t) (asc:=asc) (has:=has) (a:=a) (g:=g) (us:=us)
 rcases hl' with ⟨rfl,e0⟩ | ⟨b',rfl,hbv,hnb,_⟩
 ·have e0:selA f t asc has a g us=[]:=by simpa using e0
  have eT:tellA f t asc has a g us=[]:=by unfold tellA;rw [e0];cases asc <;> rfl
  rw [eT,List.take_nil]
  have er:decide ((([]:List Ea).length:Int) > mostA lim k)=false:=decide_eq_false (by simp;omega)
  rw [er]
  have hw0:∀ z:Int,0 < z→(bif false then bif decide ((0:Int) < z) then z else (0:Int) else bif decide (z < (0:Int)) then z else (0:Int))=0:=fun z hz=>min_c (by rw [if_neg (by omega)])
  by_cases hk:0 < k
  ·have hqk:(bif false then bif decide (lim < k) then k else lim else bif decide (k < lim) then k else lim)=mostA lim k:=min_c (by unfold mostA;by_cases h:k < lim <;> simp [h,hk])
   cases asc with
   | true=>exact rg_a1n (m:=m) (hp3:=[]) hclo1 h37 h83 hb1 hes hk hqk hlp ht2 hq (hw0 _ hq)
   | false=>exact rg_d1n (m:=m) hclo1 h37 h83 hb1 hes hk hqk hlp rv_0 ht2 hq (hw0 _ hq)
  ·have em:mostA lim k=lim:=by unfold mostA;rw [if_neg (by omega)]
   rw [em] at hlp hq
   cases asc with
   | true=>exact rg_a0n (m:=m) (hp3:=[]) (q:=0) hclo1 h37 h83 hb1 hes hk hlp ht2 hq (hw0 _ hq)
   | false=>exact rg_d0n (m:=m) (q:=0) hclo1 h37 h83 hb1 hes hk hlp rv_0 ht2 hq (hw0 _ hq)
 ·have hT0:selA f t asc has a g us≠[]:=fun h=>by have:=hl0 h;cases this
  have hs0:=List.length_pos_iff.2 hT0
  rw [List.length_map] at hlp
  have hTl:=tellA_len (f:=f) (t:=t) (asc:=asc) (has:=has) (a:=a) (g:=g) (us:=us)
  have hplT:∀ e ∈ tellA f t asc has a g us,∀ d,Plain (d + 5) (eA e):=fun e he=>by
   have:e ∈ selA f t asc has a g us:=by
    unfold tellA at he
    cases asc
    ·exact List.mem_reverse.1 he
    ·exact he
   exact (hpl e this).2.2
  have hw:∃ w:Nat,(bif false then bif decide (((selA f t asc has a g us).length:Int) < mostA lim k) then mostA lim k else ((selA f t asc has a g us).length:Int) else bif decide (mostA lim k < ((selA f t asc has a g us).length:Int)) then mostA lim k else ((selA f t asc has a g us).length:Int))=(w:Int)∧w≤(selA f t asc has a g us).length∧0 < w∧(tellA f t asc has a g us).take w=(tellA f t asc has a g us).take (mostA lim k).toNat:=by
   by_cases h:mostA lim k < ((selA f t asc has a g us).length:Int)
   ·exact ⟨(mostA lim k).toNat,min_c (by rw [if_pos h];omega),by omega,by omega,rfl⟩
   ·refine ⟨(selA f t asc has a g us).length,min_c (by rw [if_neg h]),Nat.le_refl _,hs0, ?_⟩
    rw [← hTl,List.take_length,List.take_of_length_le (by omega)]
  obtain ⟨w,hw1,hw2,hw3,hw4⟩:=hw
  have hrv:asc=false→∃ hp3,evI (cfg m) fl 85 [.arr 3 b' 0 (selA f t asc has a g us).length] hp2=some (.tup [],hp3)∧blkCells hp3 b'=some (flat ((selA f t asc has a g us).reverse.map eA))∧PreN hp.length hp2 hp3:=fun _=>by
   obtain ⟨hp3,r1,r2,r3⟩:=rev_ok (m:=m) (fl:=fl) hT0 (by omega) (by omega) hbv
   exact ⟨hp3,r1,r2,r3.mono hnb⟩
  rw [hTl,← hw4]
  by_cases hk:0 < k
  ·have hqk:(bif false then bif decide (lim < k) then k else lim else bif decide (k < lim) then k else lim)=mostA lim k:=min_c (by unfold mostA;by_cases h:k < lim <;> simp [h,hk])
   cases asc with
   | true=>exact rg_a1v (m:=m) (hp3:=[]) (r:=decide (((selA f t true has a g us).length:Int) > mostA lim k)) hclo1 h37 h83 hb1 hes hk hqk hlp ht2 hw1 hw2 rfl hbv (fun r=>shut_told hbv hnb hw2 hw3 hplT r)
   | false =>
    obtain ⟨hp3,r1,r2,r3⟩:=hrv rfl
    exact rg_d1v (m:=m) (r:=decide (((selA f t false has a g us).length:Int) > mostA lim k)) hclo1 h37 h83 hb1 hes hk hqk hlp r1 (preN_take (hpre.trans r3) hl1) hw1 hw2 rfl r2 (fun r=>shut_told (T:=(selA f t false has a g us).reverse) r2 hnb (by simpa using hw2) hw3 hplT r)
  ·have em:mostA lim k=lim:=by unfold mostA;rw [if_neg (by omega)]
   rw [em] at hlp hq hw1 ⊢
   cases asc with
   | true=>exact rg_a0v (m:=m) (hp3:=[]) (q:=0) (r:=decide (((selA f t true has a g us).length:Int) > lim)) hclo1 h37 h83 hb1 hes hk hlp ht2 hw1 hw2 rfl hbv (fun r=>shut_told hbv hnb hw2 hw3 hplT r)
   | false =>
    obtain ⟨hp3,r1,r2,r3⟩:=hrv rfl
    exact rg_d0v (m:=m) (q:=0) (r:=decide (((selA f t false has a g us).length:Int) > lim)) hclo1 h37 h83 hb1 hes hk hlp r1 (preN_take (hpre.trans r3) hl1) hw1 hw2 rfl r2 (fun r=>shut_told (T:=(selA f t false has a g us).reverse) r2 hnb (by simpa using hw2) hw3 hplT r)
theorem app_3e {C:Cfg} {fl:Nat} {hp:List Blk} {x y:AV} {vs ws:List AV} {t:TypeId} (h:Gr fl 3 hp x vs) (hy:elems hp 3 y=some ws) (ht:elT C t 3 48=true) (hw:ws≠[]) (hl:(vs.length + ws.length) * 48≤140737488355328) (hf:fl≤hp.length) :
  ∃ x' hp',(∀ ts,builtinE C fl false ⟨ts,hp⟩ .append [t,t] [x,y]=some ⟨.v x',ts,hp',bif isArr y then .hw else .fw⟩)∧Gr fl 3 hp' x' (vs++ws)∧FrC [] hp hp':=append_gr h hy ht hw hl hf
abbrev imSt (l:AV) (k:Int) (o:AV) (i:Nat):List TV:=[.v l, .v (.int .i64 k),J,J,J, .v o, .v (AI i)]++List.replicate 20 J
theorem im_i {m:Int} {fl i:Nat} {hp:List Blk} {k:Int} {a1 a2 a3 lt:AV} {w:Bool} {q kk:Int} {e:Ea} {l o:AV} {ls ms:List AV} (hl:IsSl 7 l ls) (hc:ls[i]?=some (.agg [a1,a2,a3, .bool w, .int .i8 q,lt, .int .u8 kk])) (hi:i < ls.length) (hi2:(i:Int) < k) (hi3:i < 1000) (hh:∀ fl hp,evI (cfg m) fl 42 [.agg [a1,a2,a3, .bool w, .int .i8 q,lt, .int .u8 kk]] hp=some (eA e,hp)) (ho:Gr fl 3 hp o ms) (hlen:(ms.length + [eA e].length) * 48≤140737488355328) (hf:fl≤hp.length):∃ hp' o',LoopS (cfg m) fl 24 (bodyAt (cfg m) 24 3) 3 ⟨imSt l k o i,hp⟩ ⟨imSt l k o' (i + 1),hp'⟩∧Gr fl 3 hp' o' (ms++[eA e])∧FrC [] hp hp':=by
 obtain ⟨x'1,hp'2,e3,h4,h5⟩:=(app_3e (C:=cfg m) (y:=AV.lit 3 Own.exact [AV.agg [AI e.fst,e.snd.fst,AV.str e.snd.snd]]) (t:=55) ho (by kernel_rfl) (by kernel_rfl) (by simp_all;done) hlen hf)
 exact ⟨hp'2,_,loopStepS (St.mk [TV.v l,TV.v (AI k),J,J,J,TV.v x'1,TV.v (AI ((↑i:Int) + 1)),J,J,J,J,J,J,J,J,J,J,J,J,J,J,J,J,J,J,J,J] hp'2) [.m 3 2 (len_sl (C:=cfg m) (t:=51) (ts':=[]) (fl:=fl) (ar:=false) (hp:=hp) hl (by kernel_rfl)), .b 3 3 (decide_eq_true ((show (↑i:Int) < (↑ls.length:Int) from (by omega)))), .b 3 7 (decide_eq_true (hi2)), .a 5 3 (indexAddr_sl (C:=cfg m) (t:=51) (n:=(↑i:Int)) hl (by kernel_rfl) (by omega) hc), .c 5 5 (hh (fl) (hp)), .m 5 7 e3, .w 4 1 IntKind.i64 ((↑i:Int) + 1) (wrap_i64' (by omega))] (by kernel_rfl) rfl,by assumption,by assumption⟩
abbrev imEnd (o:AV):List TV:=[J,J,J,J,J, .v o,J]++List.replicate 20 J
theorem im_x {m:Int} {fl i:Nat} {hp:List Blk} {k:Int} {l o:AV} {ls:List AV} (hl:IsSl 7 l ls) (hi:ls.length≤i∨k≤(i:Int)):LoopI (cfg m) fl 24 (bodyAt (cfg m) 24 3) 3 ⟨imSt l k o i,hp⟩ (.exit 0) ⟨imEnd o,hp⟩:=by
 by_cases h1:(↑i:Int) < (↑ls.length:Int)
 ·exact loopEndC (.exit 0) (St.mk ([J,J,J,J,J,TV.v o]++Jn 21) hp) [.m 3 2 (len_sl (C:=cfg m) (t:=51) (ts':=[]) (fl:=fl) (ar:=false) (hp:=hp) hl (by kernel_rfl)), .b 3 3 (decide_eq_true h1), .b 3 7 (decide_eq_false ((show ¬(↑i:Int) < k from (by omega))))] (by kernel_rfl) (fun h=>by cases h) rfl
 ·exact loopEndC (.exit 0) (St.mk ([J,J,J,J,J,TV.v o]++Jn 21) hp) [.m 3 2 (len_sl (C:=cfg m) (t:=51) (ts':=[]) (fl:=fl) (ar:=false) (hp:=hp) hl (by kernel_rfl)), .b 3 3 (decide_eq_false h1)] (by kernel_rfl) (fun h=>by cases h) rfl
theorem im_n {m:Int} {fl:Nat} {hp hp':List Blk} {k:Int} {l o w:AV} (hlp:LoopI (cfg m) hp.length 24 (bodyAt (cfg m) 24 3) 3 ⟨imSt l k .nilS 0,hp⟩ (.exit 0) ⟨imEnd o,hp'⟩) (hs:shutV hp' hp.length 100000 o=some w):evI (cfg m) fl 24 [l, .int .i64 k] hp=some (w,hp):=by
 exact evX1 (o) (hp') [.l 3 hlp] (by kernel_rfl) (tlP1 (by kernel_rfl) hs) rfl
structure ItL (m:Int) (ls:List AV) (es:List Ea):Prop where
 len:es.length=ls.length
 ev:∀ (i:Nat) v e,ls[i]?=some v→es[i]?=some e→(∃ a1 a2 a3 lt w q kk,v = .agg [a1,a2,a3, .bool w, .int .i8 q,lt, .int .u8 kk])∧∀ fl hp,evI (cfg m) fl 42 [v] hp=some (eA e,hp)
 ok:∀ e ∈ es,OkE e∧Lim e∧∀ d,Plain (d + 5) (eA e)
theorem itL_of {m:Int}:∀ {ls:List AV},(∀ y ∈ ls,Sh (cfg 0) 7 80 y)→∃ es,ItL m ls es
 | [],_=>⟨[],rfl,fun i v e h=>by simp at h,fun e h=>by cases h⟩
 | y::ls,h=>by
  obtain ⟨es,h1⟩:=itL_of (m:=m) (ls:=ls) fun y hy=>h y (List.mem_cons_of_mem _ hy)
  have hy:=h y List.mem_cons_self
  obtain ⟨e,e1,e2,e3,e4⟩:=item_e (m:=m) hy
  obtain ⟨ts,x,xs,s,w,q,lt,ls',k,e0,_⟩:=sh80 hy
  refine ⟨e::es,by rw [List.length_cons,List.length_cons,h1.len],fun i v e' hv he => ?_,fun e' he => ?_⟩
  ·cases i with
   | zero =>
    have hv:y=v:=by simpa using hv
    have he:e=e':=by simpa using he
    subst hv;subst he
    exact ⟨⟨_,_,_,_,_,_,_,e0⟩,e4⟩
   | succ i=>exact h1.ev i v e' (by simpa using hv) (by simpa using he)
  ·rcases List.mem_cons.1 he with rfl | he
   ·exact ⟨e1,e2,e3⟩
   ·exact h1.ok e' he
theorem im_loop {m:Int} {fl:Nat} {l:AV} {ls:List AV} {es:List Ea} (hl:IsSl 7 l ls) (hI:ItL m ls es) (K:Nat) (hK:K≤100):∀ (d i:Nat) (hp:List Blk) (o:AV),d + i=K→i≤es.length→Gr fl 3 hp o ((es.take i).map eA)→fl≤hp.length→(o = .nilS∧i=0∨∃ g,o = .lit 3 (.fam g 0) ((es.take i).map eA)∧0 < i) →
  ∃ (o':AV) (hp':List Blk),LoopI (cfg m) fl 24 (bodyAt (cfg m) 24 3) 3 ⟨imSt l K o i,hp⟩ (.exit 0) ⟨imEnd o',hp'⟩∧Gr fl 3 hp' o' ((es.take K).map eA)∧sealOf o'=valE (es.take K)
 | 0,i,hp,o,hd,hi,ho,hf,hs=>by
  obtain rfl:i=K:=by omega
  refine ⟨o,hp,im_x hl (.inr (by omega)),ho, ?_⟩
  rcases hs with ⟨rfl,h⟩ | ⟨g,rfl,h⟩
  ·rw [h];rfl
  ·cases hT:es.take i with
   | nil =>
    have:=congrArg List.length hT
    rw [List.length_take,List.length_nil] at this
    omega
   | cons x T=>rfl
 | d + 1,i,hp,o,hd,hi,ho,hf,hs=>by
  rcases Nat.lt_or_ge i es.length with hlt | hge
  ·have hls:i < ls.length:=by rw [← hI.len];exact hlt
   obtain ⟨⟨a1,a2,a3,lt,w,q,kk,e0⟩,h2⟩:=hI.ev i ls[i] es[i] (List.getElem?_eq_getElem hls) (List.getElem?_eq_getElem hlt)
   obtain ⟨hp',o',g1,g2,g3⟩:=im_i (m:=m) (fl:=fl) (k:=K) (e:=es[i]) hl (by rw [List.getElem?_eq_getElem hls,e0]) hls (by omega) (by omega) (by rw [← e0];exact h2) ho (by simp;omega) hf
   have et:(es.take i).map eA++[eA es[i]]=(es.take (i + 1)).map eA:=by
    rw [List.take_add_one,List.getElem?_eq_getElem hlt,List.map_append];rfl
   rw [et] at g2
   have hs':o' = .nilS∧i + 1=0∨∃ g,o' = .lit 3 (.fam g 0) ((es.take (i + 1)).map eA)∧0 < i + 1:=by
    rcases g2 with ⟨_,h⟩ | ⟨g,h,_⟩
    ·have:=congrArg List.length h
     rw [List.length_map,List.length_take,List.length_nil] at this
     omega
    ·exact .inr ⟨g,h,Nat.succ_pos _⟩
   obtain ⟨o'',hp'',k1,k2⟩:=im_loop hl hI K hK d (i + 1) hp' o' (by omega) hlt g2 (Nat.le_trans hf g3.1) hs'
   exact ⟨o'',hp'',g1 _ _ k1,k2⟩
  ·have:i=es.length:=by omega
   subst this
   refine ⟨o,hp,im_x hl (.inl (by rw [← hI.len];exact Nat.le_refl _)), ?_, ?_⟩
   ·rw [List.take_length] at ho;rw [List.take_of_length_le (by omega)];exact ho
   ·rw [List.take_of_length_le (i:=K) (by omega)]
    rcases hs with ⟨rfl,h⟩ | ⟨g,rfl,h⟩
    ·rw [List.eq_nil_of_length_eq_zero h];rfl
    ·rw [List.take_length]
     cases es with
     | nil=>simp at h
     | cons x T=>rfl
theorem items_ok {m:Int} {l:AV} {ls:List AV} {es:List Ea} (hl:IsSl 7 l ls) (hI:ItL m ls es) (K:Nat) (hK:K≤100):∀ fl hp,evI (cfg m) fl 24 [l, .int .i64 (K:Int)] hp=some (valE (es.take K),hp):=fun fl hp=>by
 obtain ⟨o',hp',h1,h2,h3⟩:=im_loop (m:=m) (fl:=hp.length) hl hI K hK K 0 hp .nilS rfl (Nat.zero_le _) (.nil _ _ _) (Nat.le_refl _) (.inl ⟨rfl,rfl⟩)
 have:=im_n (fl:=fl) h1 (shut_gr h2 fun v hv=>by
  obtain ⟨e,he,rfl⟩:=List.mem_map.1 hv
  exact (hI.ok e (List.mem_of_mem_take he)).2.2 99994)
 rw [h3] at this
 exact this
end Go.Proofs.YtgbheglnmdnkoaaGreatDoor.E.SF
namespace Go.Proofs.YtgbheglnmdnkoaaGreatDoor.E.SF
open Go Go.Proofs E E.R
theorem ex23_ {m:Int}:evI (cfg m) 0 23 [] []=some (.bool true,[]):=by
 refine evI_of (k:=300) ?_
 kernel_rfl
theorem ex23 {m:Int}:∀ fl,evI (cfg m) fl 23 [] []=some (.bool true,[]):=fun fl=>evI_fl (.inl rfl) ex23_
end Go.Proofs.YtgbheglnmdnkoaaGreatDoor.E.SF
namespace Go.Proofs
open Go.Shelf
def Tryz.laysM173_ren:Go.Shelf.Ren:=⟨fun | 173=>196 | 246=>227 | 283=>246 | 284=>247 | 285=>248 | 286=>249 | 129=>261 | 317=>260 | 318=>262 | 319=>263 | 320=>264 | 337=>275 | 338=>276 | n=>n,fun | 2=>2 | 3=>3 | 9=>9 | 4=>4 | 171=>369 | 0=>0 | 53=>243 | 37=>277 | 5=>5 | 173=>372 | 212=>385 | 51=>350 | 20=>20 | 213=>386 | 46=>314 | 232=>401 | 233=>402 | n=>n,fun | 17=>1 | 18=>2 | 19=>3 | n=>n⟩
theorem Tryz.laysM173:Go.Proofs.LaysM.n173 Tryz.prog Tryz.laysM173_ren:={
 mixed:=by kernel_rfl
 f129:=Tryz.func261.trans (congrArg some (by kernel_rfl))
 f173:=Tryz.func196.trans (congrArg some (by kernel_rfl))
 f246:=Tryz.func227.trans (congrArg some (by kernel_rfl))
 f283:=Tryz.func246.trans (congrArg some (by kernel_rfl))
 f284:=Tryz.func247.trans (congrArg some (by kernel_rfl))
 f285:=Tryz.func248.trans (congrArg some (by kernel_rfl))
 f286:=Tryz.func249.trans (congrArg some (by kernel_rfl))
 f317:=Tryz.func260.trans (congrArg some (by kernel_rfl))
 f318:=Tryz.func262.trans (congrArg some (by kernel_rfl))
 f319:=Tryz.func263.trans (congrArg some (by kernel_rfl))
 f320:=Tryz.func264.trans (congrArg some (by kernel_rfl))
 f337:=Tryz.func275.trans (congrArg some (by kernel_rfl))
 f338:=Tryz.func276.trans (congrArg some (by kernel_rfl))
 t0:=Tryz.underlying0
 a0:=Tryz.isAgg0
 z0:=Tryz.sizeOf0
 v0:=Tryz.zeroValue0
 t2:=Tryz.underlying2
 a2:=Tryz.isAgg2
 z2:=Tryz.sizeOf2
 v2:=Tryz.zeroValue2
 t3:=Tryz.underlying3
 a3:=Tryz.isAgg3
 z3:=Tryz.sizeOf3
 v3:=Tryz.zeroValue3
 t4:=Tryz.underlying4
 a4:=Tryz.isAgg4
 z4:=Tryz.sizeOf4
 v4:=Tryz.zeroValue4
 t5:=Tryz.underlying5
 a5:=Tryz.isAgg5
 z5:=Tryz.sizeOf5
 v5:=Tryz.zeroValue5
 t9:=Tryz.underlying9
 a9:=Tryz.isAgg9
 z9:=Tryz.sizeOf9
 v9:=Tryz.zeroValue9
 t20:=Tryz.underlying20
 a20:=Tryz.isAgg20
 z20:=Tryz.sizeOf20
 v20:=Tryz.zeroValue20
 t37:=Tryz.underlying277
 a37:=Tryz.isAgg277
 z37:=Tryz.sizeOf277
 v37:=Tryz.zeroValue277
 t46:=Tryz.underlying314
 a46:=Tryz.isAgg314
 z46:=Tryz.sizeOf314
 v46:=Tryz.zeroValue314
 t51:=Tryz.underlying350
 a51:=Tryz.isAgg350
 z51:=Tryz.sizeOf350
 v51:=Tryz.zeroValue350
 t53:=Tryz.underlying243
 a53:=Tryz.isAgg243
 z53:=Tryz.sizeOf243
 v53:=Tryz.zeroValue243
 t171:=Tryz.underlying369
 a171:=Tryz.isAgg369
 z171:=Tryz.sizeOf369
 v171:=Tryz.zeroValue369
 t173:=Tryz.underlying372
 a173:=Tryz.isAgg372
 z173:=Tryz.sizeOf372
 v173:=Tryz.zeroValue372
 t212:=Tryz.underlying385
 a212:=Tryz.isAgg385
 z212:=Tryz.sizeOf385
 v212:=Tryz.zeroValue385
 t213:=Tryz.underlying386
 a213:=Tryz.isAgg386
 z213:=Tryz.sizeOf386
 t232:=Tryz.underlying401
 a232:=Tryz.isAgg401
 z232:=Tryz.sizeOf401
 v232:=Tryz.zeroValue401
 t233:=Tryz.underlying402
 a233:=Tryz.isAgg402
 z233:=Tryz.sizeOf402
 v233:=Tryz.zeroValue402
 g17:=by kernel_rfl
 g18:=by kernel_rfl
 g19:=by kernel_rfl
 i0:=by kernel_rfl
 i2:=by kernel_rfl
 i3:=by kernel_rfl
 i4:=by kernel_rfl
 i5:=by kernel_rfl
 i9:=by kernel_rfl
 i20:=by kernel_rfl
 i37:=by kernel_rfl
 i46:=by kernel_rfl
 i51:=by kernel_rfl
 i53:=by kernel_rfl
 i171:=by kernel_rfl
 i173:=by kernel_rfl
 i212:=by kernel_rfl
 i232:=by kernel_rfl
 i233:=by kernel_rfl
 m17:=by kernel_rfl
 m18:=by kernel_rfl
 m19:=by kernel_rfl }
open Go.RowKit Go.Sort Go.Lib in
theorem Tryz.strconv_FormatInt_10 (n : Int) (h0 : -9223372036854775808 ≤ n) (h1 : n ≤ 9223372036854775807) (w : World) (htab : Lib.TabIs Tryz.prog w "internal/strconv.uint64pow10" .u64 Lib.pow10Tab) :
  Calls Tryz.prog 196 #[.int .i64 n, .int .i64 10] w fun e w'=>e = .returned (.string ⟨(Lib.itoa n).toArray⟩)∧∃ k os,w'=grow (w.drewN k) os:=Any.strconv_FormatInt_10 Tryz.laysM173 n h0 h1 w htab
def Tryz.laysC174_ren:Go.Shelf.Ren:=⟨fun | 174=>280 | 247=>283 | 245=>284 | 287=>286 | 279=>287 | 280=>288 | 281=>289 | 282=>290 | 321=>291 | 322=>292 | 316=>293 | 171=>295 | 205=>294 | 243=>296 | 246=>227 | 283=>246 | 284=>247 | 285=>248 | 286=>249 | 129=>261 | 317=>260 | 318=>262 | 319=>263 | 320=>264 | 337=>275 | 338=>276 | n=>n,fun | 9=>9 | 3=>3 | 2=>2 | 75=>398 | 85=>399 | 4=>4 | 167=>405 | 5=>5 | 53=>243 | 175=>406 | 46=>314 | 168=>408 | 37=>277 | 0=>0 | 210=>414 | 21=>21 | 127=>416 | 145=>419 | 143=>417 | 171=>369 | 173=>372 | 212=>385 | 51=>350 | 20=>20 | 213=>386 | 232=>401 | 233=>402 | 80=>49 | n=>n,fun | 15=>4 | 16=>5 | 17=>1 | 18=>2 | 19=>3 | n=>n⟩
theorem Tryz.laysC174:Go.Proofs.LaysC.n174 Tryz.prog Tryz.laysC174_ren:={
 mixed:=by kernel_rfl
 f129:=Tryz.func261.trans (congrArg some (by kernel_rfl))
 f171:=Tryz.func295.trans (congrArg some (by kernel_rfl))
 f174:=Tryz.func280.trans (congrArg some (by kernel_rfl))
 f205:=Tryz.func294.trans (congrArg some (by kernel_rfl))
 f243:=Tryz.func296.trans (congrArg some (by kernel_rfl))
 f245:=Tryz.func284.trans (congrArg some (by kernel_rfl))
 f246:=Tryz.func227.trans (congrArg some (by kernel_rfl))
 f247:=Tryz.func283.trans (congrArg some (by kernel_rfl))
 f279:=Tryz.func287.trans (congrArg some (by kernel_rfl))
 f280:=Tryz.func288.trans (congrArg some (by kernel_rfl))
 f281:=Tryz.func289.trans (congrArg some (by kernel_rfl))
 f282:=Tryz.func290.trans (congrArg some (by kernel_rfl))
 f283:=Tryz.func246.trans (congrArg some (by kernel_rfl))
 f284:=Tryz.func247.trans (congrArg some (by kernel_rfl))
 f285:=Tryz.func248.trans (congrArg some (by kernel_rfl))
 f286:=Tryz.func249.trans (congrArg some (by kernel_rfl))
 f287:=Tryz.func286.trans (congrArg some (by kernel_rfl))
 f316:=Tryz.func293.trans (congrArg some (by kernel_rfl))
 f317:=Tryz.func260.trans (congrArg some (by kernel_rfl))
 f318:=Tryz.func262.trans (congrArg some (by kernel_rfl))
 f319:=Tryz.func263.trans (congrArg some (by kernel_rfl))
 f320:=Tryz.func264.trans (congrArg some (by kernel_rfl))
 f321:=Tryz.func291.trans (congrArg some (by kernel_rfl))
 f322:=Tryz.func292.trans (congrArg some (by kernel_rfl))
 f337:=Tryz.func275.trans (congrArg some (by kernel_rfl))
 f338:=Tryz.func276.trans (congrArg some (by kernel_rfl))
 t0:=Tryz.underlying0
 a0:=Tryz.isAgg0
 z0:=Tryz.sizeOf0
 v0:=Tryz.zeroValue0
 t2:=Tryz.underlying2
 a2:=Tryz.isAgg2
 z2:=Tryz.sizeOf2
 v2:=Tryz.zeroValue2
 t3:=Tryz.underlying3
 a3:=Tryz.isAgg3
 z3:=Tryz.sizeOf3
 v3:=Tryz.zeroValue3
 t4:=Tryz.underlying4
 a4:=Tryz.isAgg4
 z4:=Tryz.sizeOf4
 v4:=Tryz.zeroValue4
 t5:=Tryz.underlying5
 a5:=Tryz.isAgg5
 z5:=Tryz.sizeOf5
 v5:=Tryz.zeroValue5
 t9:=Tryz.underlying9
 a9:=Tryz.isAgg9
 z9:=Tryz.sizeOf9
 v9:=Tryz.zeroValue9
 t20:=Tryz.underlying20
 a20:=Tryz.isAgg20
 z20:=Tryz.sizeOf20
 v20:=Tryz.zeroValue20
 t21:=Tryz.underlying21
 a21:=Tryz.isAgg21
 z21:=Tryz.sizeOf21
 v21:=Tryz.zeroValue21
 t37:=Tryz.underlying277
 a37:=Tryz.isAgg277
 z37:=Tryz.sizeOf277
 v37:=Tryz.zeroValue277
 t46:=Tryz.underlying314
 a46:=Tryz.isAgg314
 z46:=Tryz.sizeOf314
 v46:=Tryz.zeroValue314
 t51:=Tryz.underlying350
 a51:=Tryz.isAgg350
 z51:=Tryz.sizeOf350
 v51:=Tryz.zeroValue350
 t53:=Tryz.underlying243
 a53:=Tryz.isAgg243
 z53:=Tryz.sizeOf243
 v53:=Tryz.zeroValue243
 t75:=Tryz.underlying398
 a75:=Tryz.isAgg398
 z75:=Tryz.sizeOf398
 v75:=Tryz.zeroValue398
 t85:=Tryz.underlying399
 a85:=Tryz.isAgg399
 z85:=Tryz.sizeOf399
 v85:=Tryz.zeroValue399
 t127:=Tryz.underlying416
 a127:=Tryz.isAgg416
 z127:=Tryz.sizeOf416
 v127:=Tryz.zeroValue416
 t143:=Tryz.underlying417
 a143:=Tryz.isAgg417
 z143:=Tryz.sizeOf417
 v143:=Tryz.zeroValue417
 t145:=Tryz.underlying419
 a145:=Tryz.isAgg419
 z145:=Tryz.sizeOf419
 v145:=Tryz.zeroValue419
 t167:=Tryz.underlying405
 a167:=Tryz.isAgg405
 z167:=Tryz.sizeOf405
 v167:=Tryz.zeroValue405
 t168:=Tryz.underlying408
 a168:=Tryz.isAgg408
 z168:=Tryz.sizeOf408
 v168:=Tryz.zeroValue408
 t171:=Tryz.underlying369
 a171:=Tryz.isAgg369
 z171:=Tryz.sizeOf369
 v171:=Tryz.zeroValue369
 t173:=Tryz.underlying372
 a173:=Tryz.isAgg372
 z173:=Tryz.sizeOf372
 v173:=Tryz.zeroValue372
 t175:=Tryz.underlying406
 a175:=Tryz.isAgg406
 z175:=Tryz.sizeOf406
 v175:=Tryz.zeroValue406
 t210:=Tryz.underlying414
 a210:=Tryz.isAgg414
 z210:=Tryz.sizeOf414
 v210:=Tryz.zeroValue414
 t212:=Tryz.underlying385
 a212:=Tryz.isAgg385
 z212:=Tryz.sizeOf385
 v212:=Tryz.zeroValue385
 t213:=Tryz.underlying386
 a213:=Tryz.isAgg386
 z213:=Tryz.sizeOf386
 t232:=Tryz.underlying401
 a232:=Tryz.isAgg401
 z232:=Tryz.sizeOf401
 v232:=Tryz.zeroValue401
 t233:=Tryz.underlying402
 a233:=Tryz.isAgg402
 z233:=Tryz.sizeOf402
 v233:=Tryz.zeroValue402
 g15:=by kernel_rfl
 g16:=by kernel_rfl
 g17:=by kernel_rfl
 g18:=by kernel_rfl
 g19:=by kernel_rfl
 t80:=Tryz.underlying49
 a80:=Tryz.isAgg49
 z80:=Tryz.sizeOf49
 v80:=Tryz.zeroValue49
 i0:=by kernel_rfl
 i2:=by kernel_rfl
 i3:=by kernel_rfl
 i4:=by kernel_rfl
 i5:=by kernel_rfl
 i9:=by kernel_rfl
 i20:=by kernel_rfl
 i21:=by kernel_rfl
 i37:=by kernel_rfl
 i46:=by kernel_rfl
 i51:=by kernel_rfl
 i53:=by kernel_rfl
 i75:=by kernel_rfl
 i80:=by kernel_rfl
 i85:=by kernel_rfl
 i127:=by kernel_rfl
 i143:=by kernel_rfl
 i145:=by kernel_rfl
 i167:=by kernel_rfl
 i168:=by kernel_rfl
 i171:=by kernel_rfl
 i173:=by kernel_rfl
 i175:=by kernel_rfl
 i210:=by kernel_rfl
 i212:=by kernel_rfl
 i232:=by kernel_rfl
 i233:=by kernel_rfl
 m15:=by kernel_rfl
 m16:=by kernel_rfl
 m17:=by kernel_rfl
 m18:=by kernel_rfl
 m19:=by kernel_rfl
 c0:=by kernel_rfl
 c2:=by kernel_rfl
 c3:=by kernel_rfl
 c4:=by kernel_rfl
 c5:=by kernel_rfl
 c9:=by kernel_rfl
 c20:=by kernel_rfl
 c21:=by kernel_rfl
 c37:=by kernel_rfl
 c46:=by kernel_rfl
 c51:=by kernel_rfl
 c53:=by kernel_rfl
 c75:=by kernel_rfl
 c80:=by kernel_rfl
 c85:=by kernel_rfl
 c127:=by kernel_rfl
 c143:=by kernel_rfl
 c145:=by kernel_rfl
 c167:=by kernel_rfl
 c168:=by kernel_rfl
 c171:=by kernel_rfl
 c173:=by kernel_rfl
 c175:=by kernel_rfl
 c210:=by kernel_rfl
 c212:=by kernel_rfl
 c213:=by kernel_rfl
 c232:=by kernel_rfl
 c233:=by kernel_rfl }
open Go.RowKit in
theorem Tryz.strconv_ParseInt_10_at64_ok (s:ByteArray) (hmax:s.size≤9223372036854775806) (v:Int) (h:Lib.parseIntB 64 s.data.toList = .ok v) (w:World) :
  Calls Tryz.prog 280 #[.string s, .int .i64 10, .int .i64 64] w fun e w'=>e = .returned (.tuple #[.int .i64 v, .nilIface])∧(w'=w∨∃ t,w'=Lib.bytesWorld w 5 t):=Any.strconv_ParseInt_10_at64_ok Tryz.laysC174 s hmax v h w
open Go.RowKit in
theorem Tryz.strconv_ParseInt_10_at64_range (s:ByteArray) (hlim:s.size≤281474976710656) (h:Lib.parseIntB 64 s.data.toList = .range) (ev:Value) (w:World) (hv:w.cell? ⟨5,0,none⟩=some ev) (hev:ev = .nilIface∨∃ te pe,ev = .iface te pe) :
  Calls Tryz.prog 280 #[.string s, .int .i64 10, .int .i64 64] w fun e w'=>∃ N,e = .returned (.tuple #[.int .i64 (Lib.intSat 64 s.data.toList), .iface 408 (.pointer (some ⟨N,0,none⟩))])∧w.heap.size≤N∧w'.heap[N]?=some (.cells #[.string ⟨#[80,97,114,115,101,73,110,116]⟩, .string s,ev] 414 (0,0))∧Below w.heap.size w w':=Any.strconv_ParseInt_10_at64_range Tryz.laysC174 s hlim h ev w hv hev
end Go.Proofs
set_option linter.unusedVariables false
set_option linter.unusedSimpArgs false
namespace Go.Proofs.YtgbheglnmdnkoaaGreatDoor.E.SF
open Go Go.Proofs Go.RowKit Go.Lib E
set_option maxHeartbeats 4000000 in
set_option maxRecDepth 100000 in
theorem ins_shift (b off n c i vb voff vc:Nat) (cs vs:List Value) (w:World) (hi:i < n) (hroom:n + 1≤c) (hn63:n≤140737488355328)
  (hcl:cs.length=n * 2) (hvl:vs.length=2)
  (hcs:∀ j v,cs[j]?=some v→w.cell? ⟨b,off + j,none⟩=some v) (hsp:∀ j,j < (n + 1) * 2→(w.cell? ⟨b,off + j,none⟩).isSome=true) (hfz:∀ o,w.frozen? ⟨b,o,none⟩=false)
  (hvs:∀ j v,vs[j]?=some v→w.cell? ⟨vb,voff + j,none⟩=some v) (h1c:∀ v ∈ cs,v.oneCell'=true) (h1v:∀ v ∈ vs,v.oneCell'=true)
  (hap:vb=b→off + (n + 1) * 2≤voff∨voff + 2≤off)
  (tA tB:TypeId) (kA kB:Nat) (hsa:w.shape? vb=some (tA,kA)) (hsb:w.shape? b=some (tB,kB)) (hkA:kA≠0) :
  Calls Tryz.prog 169 #[.slice (some ⟨b,off,none⟩) n c, .int .i64 i, .slice (some ⟨vb,voff,none⟩) 1 vc] w fun e w' =>
   e = .returned (.slice (some ⟨b,off,none⟩) (n + 1) c)∧w'=(w.drew.setCells b (off + (i + 1) * 2) (cs.drop (i * 2))).setCells b (off + i * 2) vs:=by
 have hz2:¬ ((i:Int)=(n:Int)):=by omega
 have hsz:(Tryz.prog.info? 43).map (·.size)=some 2:=by kernel_rfl
 have mixed:Tryz.prog.follows .mixedOrders=true:=by kernel_rfl
 have hov:∀ lb cb,lb=n + 1 - (i + 1)→(callFunc 192 #[.slice (some ⟨vb,voff,none⟩) 1 vc, .slice (some ⟨b,off + (i + 1) * 2,none⟩) lb cb]).run Tryz.prog w = .ok (.value (.bool false)) w:=fun lb cb hlb=>by
  rw [run_callFunc_extern Tryz.func192 (by kernel_rfl) (by kernel_rfl) (by kernel_rfl) (e:=Extern.SlicesOverlaps.overlaps #[26,26] #[4]) (by kernel_rfl),
   ins_overlaps w 26 4 43 Tryz.underlying26 2 Tryz.sizeOf43 ⟨vb,voff,none⟩ ⟨b,off + (i + 1) * 2,none⟩ 1 vc lb cb tA tB kA kB hsa hsb hkA hfz rfl (fun h=>by have:=hap h;simp only;omega)]
  rfl
 have hdl:(cs.drop (i * 2)).length=(n - i) * 2:=by rw [List.length_drop,hcl];omega
 have hw1:IntKind.i64.wrap ((i:Int) + 1)=(i:Int) + 1:=by rw [IntKind.wrap_i64];omega
 have hcp1:∀ ty dc sc,(Builtin.copy_ #[72,72] ty #[.slice (some ⟨b,off + (i + 1) * 2,none⟩) (n - i) dc, .slice (some ⟨b,off + i * 2,none⟩) (n + 1 - i) sc]).run Tryz.prog w.drew = .ok (goInt (Nat.min (n + 1 - i) (n - i))) (w.drew.setCells b (off + (i + 1) * 2) (cs.drop (i * 2))):=fun ty dc sc =>
  ins_copy w.drew _ _ ty 43 b (off + (i + 1) * 2) (n - i) dc ⟨b,off + i * 2,none⟩ (n + 1 - i) sc 2 (cs.drop (i * 2)) Tryz.underlying72 hsz (by rw [hdl];simp only [Nat.min_def];split <;> omega)
   (fun j v hj=>by rw [Addr.add_lit,Nat.add_assoc];exact hcs (i * 2 + j) v (by rwa [List.getElem?_drop] at hj))
   (fun j hj=>by rw [Nat.add_assoc];exact hsp _ (by omega)) (fun j hj=>hfz _) (fun v hv=>h1c v (List.mem_of_mem_drop hv))
 obtain ⟨W1,hW1⟩:∃ W1,W1=w.drew.setCells b (off + (i + 1) * 2) (cs.drop (i * 2)):=⟨_,rfl⟩
 have hsp1:∀ k,k < (n + 1) * 2→(W1.cell? ⟨b,off + k,none⟩).isSome=true:=fun k hk=>by
  rw [hW1]
  exact setCells_some b _ _ _ (fun j hj=>by rw [Nat.add_assoc];exact hsp _ (by omega)) _ (hsp k hk)
 have hcp2:∀ (W:World),(∀ x,W.cell? x=W1.cell? x)→(∀ x,W.frozen? x=W1.frozen? x)→∀ ty dc,(Builtin.copy_ #[72,26] ty #[.slice (some ⟨b,off + i * 2,none⟩) (n + 1 - i) dc, .slice (some ⟨vb,voff,none⟩) 1 vc]).run Tryz.prog W = .ok (goInt (Nat.min 1 (n + 1 - i))) (W.setCells b (off + i * 2) vs):=fun W hWc hWf ty dc =>
  ins_copy W _ _ ty 43 b (off + i * 2) (n + 1 - i) dc ⟨vb,voff,none⟩ 1 vc 2 vs Tryz.underlying72 hsz (by rw [hvl];simp only [Nat.min_def];split <;> omega)
   (fun j v hj=>by
    have hj':=(List.getElem?_eq_some_iff.1 hj).1
    rw [Addr.add_lit,hWc,hW1,World.cell?_setCells_out b _ _ _ _ (fun h _=>by have:=hap h;dsimp only;omega)]
    exact hvs j v hj)
   (fun j hj=>by rw [hWc,Nat.add_assoc];exact hsp1 _ (by omega)) (fun j hj=>by rw [hWf,hW1,World.frozen?_setCells];exact hfz _) h1v
 rw [← hW1] at hcp1
 have hb1:(0:Int)≤(i:Int) + 1:=by omega
 have hin:i≤n:=by omega
 have htn:((i:Int) + 1).toNat=i + 1:=by omega
 have hb2:¬ (c=i + 1):=by omega
 have hb3:(i:Int)≤(n:Int) + 1:=by omega
 have hb4:¬ (c=i):=by omega
 go_enter Tryz.func169,Tryz.ntmps169
 go_wp2_with (simp only [hov _ _ rfl])
 go_region_law_o (refine ins_step rfl _ _ 72 72 rfl _ _ (by simp [Act.eval,Act.put]) (by simp [Act.eval,Act.put]) (hcp1 _ _ _) ?_)
 go_wp2_with (at_builtin;refine ins_at_copy _ rfl _ _ 72 26 rfl _ _ rfl rfl (hcp2 _ (fun _=>rfl) (fun _=>rfl) _ _) ?_)
 go_ret
 exact ⟨rfl,rfl⟩
set_option maxHeartbeats 4000000 in
set_option maxRecDepth 100000 in
theorem ins_end (base:Option Addr) (n c vb voff vc:Nat) (w w1:World) (rv:Value) (hb:∀ a,base=some a→a.spot=none) (hnil:base=none→n=0∧c=0) (hnc:n≤c)
  (hrun:(Builtin.append_ #[72,26] 72 #[.slice base n c, .slice (some ⟨vb,voff,none⟩) 1 vc]).run Tryz.prog w = .ok rv w1) :
  Calls Tryz.prog 169 #[.slice base n c, .int .i64 n, .slice (some ⟨vb,voff,none⟩) 1 vc] w fun e w'=>e = .returned rv∧w'=w1:=by
 have mixed:Tryz.prog.follows .mixedOrders=true:=by kernel_rfl
 go_enter Tryz.func169,Tryz.ntmps169
 cases base with
 | none =>
  obtain ⟨rfl,rfl⟩:=hnil rfl
  go_wp2_with (at_builtin;refine ins_at_append _ rfl _ _ 72 26 rfl _ _ rfl rfl hrun ?_)
  go_ret
  exact ⟨rfl,rfl⟩
 | some a =>
  obtain ⟨ab,ao,asp⟩:=a
  have:=hb _ rfl
  cases this
  go_wp2_with (at_builtin;refine ins_at_append _ rfl _ _ 72 26 rfl _ _ rfl rfl hrun ?_)
  all_goals (go_ret;exact ⟨rfl,rfl⟩)
set_option maxHeartbeats 4000000 in
set_option maxRecDepth 100000 in
theorem ins_grow (b off n c i vb voff vc G:Nat) (cs vs:List Value) (ROW:Array Value) (w:World) (hi:i < n) (hnc:n≤c) (hroom:c < n + 1) (hn63:n≤140737488355328)
  (hcl:cs.length=n * 2) (hvl:vs.length=2)
  (hcs:∀ j v,cs[j]?=some v→w.cell? ⟨b,off + j,none⟩=some v)
  (hvs:∀ j v,vs[j]?=some v→w.cell? ⟨vb,voff + j,none⟩=some v) (h1c:∀ v ∈ cs,v.oneCell'=true) (h1v:∀ v ∈ vs,v.oneCell'=true)
  (hRl:(n + 1) * 2≤ROW.size) (hGn:n + 1≤G)
  (hrz:(Builtin.append_ #[72,3] 72 #[.slice (some ⟨b,off,none⟩) i c, .int .i64 ((n:Int) + 1 - (i:Int))]).run Tryz.prog w = .ok (.slice (some ⟨w.heap.size,0,none⟩) (n + 1) G) (w.drew.alloc (.cells ROW 43))) :
  Calls Tryz.prog 169 #[.slice (some ⟨b,off,none⟩) n c, .int .i64 i, .slice (some ⟨vb,voff,none⟩) 1 vc] w fun e w' =>
   e = .returned (.slice (some ⟨w.heap.size,0,none⟩) (n + 1) G)∧w'=(((w.alloc (.cells ROW 43)).drew.setCells w.heap.size (i * 2) vs).drew).setCells w.heap.size ((i + 1) * 2) (cs.drop (i * 2)):=by
 have hz2:¬ ((i:Int)=(n:Int)):=by omega
 have hz3:(c:Int) < (n:Int) + 1:=by omega
 have hsz:(Tryz.prog.info? 43).map (·.size)=some 2:=by kernel_rfl
 have mixed:Tryz.prog.follows .mixedOrders=true:=by kernel_rfl
 have hbw:b < w.heap.size:=low (hcs 0 _ (List.getElem?_eq_getElem (by omega)))
 have hvw:vb < w.heap.size:=low (hvs 0 _ (List.getElem?_eq_getElem (by omega)))
 obtain ⟨W1,hW1⟩:∃ W1,W1=w.drew.alloc (.cells ROW 43):=⟨_,rfl⟩
 rw [← hW1] at hrz
 have hN:∀ j,j < (n + 1) * 2→(W1.cell? ⟨w.heap.size,j,none⟩).isSome=true:=fun j hj=>by
  rw [hW1,World.cell?_alloc_at (w:=w.drew) ROW _ w.heap.size j rfl,Array.getElem?_eq_getElem (by omega)];rfl
 have hNf:∀ j,W1.frozen? ⟨w.heap.size,j,none⟩=false:=fun j=>by rw [hW1];exact World.frozen?_alloc_at (w:=w.drew) ROW _ w.heap.size j rfl
 have hOb:∀ j v,w.cell? ⟨b,j,none⟩=some v→W1.cell? ⟨b,j,none⟩=some v:=fun j v h=>by rw [hW1,World.cell?_alloc_past (w:=w.drew) _ b j hbw];exact h
 have hOv:∀ j v,w.cell? ⟨vb,j,none⟩=some v→W1.cell? ⟨vb,j,none⟩=some v:=fun j v h=>by rw [hW1,World.cell?_alloc_past (w:=w.drew) _ vb j hvw];exact h
 have hcpA:∀ (W:World),(∀ x,W.cell? x=W1.cell? x)→(∀ x,W.frozen? x=W1.frozen? x)→∀ ty dc,(Builtin.copy_ #[72,26] ty #[.slice (some ⟨w.heap.size,i * 2,none⟩) (n + 1 - i) dc, .slice (some ⟨vb,voff,none⟩) 1 vc]).run Tryz.prog W = .ok (goInt (Nat.min 1 (n + 1 - i))) (W.setCells w.heap.size (i * 2) vs):=fun W hWc hWf ty dc =>
  ins_copy W _ _ ty 43 w.heap.size (i * 2) (n + 1 - i) dc ⟨vb,voff,none⟩ 1 vc 2 vs Tryz.underlying72 hsz (by rw [hvl];simp only [Nat.min_def];split <;> omega)
   (fun j v hj=>by rw [Addr.add_lit,hWc];exact hOv _ v (hvs j v hj))
   (fun j hj=>by rw [hWc];exact hN _ (by omega)) (fun j hj=>by rw [hWf];exact hNf _) h1v
 have hGi:¬ (G=i):=by omega
 have hGim:¬ (G=i + 1):=by omega
 have hci:¬ (c=i):=by omega
 have hbN:b≠w.heap.size:=by omega
 have hdl:(cs.drop (i * 2)).length=(n - i) * 2:=by rw [List.length_drop,hcl];omega
 have hcpB:∀ (W:World),(∀ x,W.cell? x=(W1.setCells w.heap.size (i * 2) vs).cell? x)→(∀ x,W.frozen? x=(W1.setCells w.heap.size (i * 2) vs).frozen? x)→∀ ty dc sc,(Builtin.copy_ #[72,72] ty #[.slice (some ⟨w.heap.size,(i + 1) * 2,none⟩) (n - i) dc, .slice (some ⟨b,off + i * 2,none⟩) (n - i) sc]).run Tryz.prog W = .ok (goInt (Nat.min (n - i) (n - i))) (W.setCells w.heap.size ((i + 1) * 2) (cs.drop (i * 2))):=fun W hWc hWf ty dc sc =>
  ins_copy W _ _ ty 43 w.heap.size ((i + 1) * 2) (n - i) dc ⟨b,off + i * 2,none⟩ (n - i) sc 2 (cs.drop (i * 2)) Tryz.underlying72 hsz (by rw [hdl];simp only [Nat.min_def];split <;> omega)
   (fun j v hj=>by
    rw [Addr.add_lit,hWc,World.cell?_setCells_out _ _ _ _ _ (fun h _=>absurd h hbN),Nat.add_assoc]
    exact hOb _ v (hcs (i * 2 + j) v (by rwa [List.getElem?_drop] at hj)))
   (fun j hj=>by rw [hWc];exact setCells_some _ _ _ _ (fun t ht=>hN _ (by omega)) _ (hN _ (by omega)))
   (fun j hj=>by rw [hWf,World.frozen?_setCells];exact hNf _) (fun v hv=>h1c v (List.mem_of_mem_drop hv))
 subst hW1
 have hE1:∀ x,((w.alloc (.cells ROW 43)).drew).cell? x=(w.drew.alloc (.cells ROW 43)).cell? x:=fun x=>rfl
 have hE2:∀ x,((w.alloc (.cells ROW 43)).drew).frozen? x=(w.drew.alloc (.cells ROW 43)).frozen? x:=fun x=>rfl
 have hF1:∀ x,(((w.alloc (.cells ROW 43)).drew.setCells w.heap.size (i * 2) vs).drew).cell? x=((w.drew.alloc (.cells ROW 43)).setCells w.heap.size (i * 2) vs).cell? x:=fun x=>rfl
 have hF2:∀ x,(((w.alloc (.cells ROW 43)).drew.setCells w.heap.size (i * 2) vs).drew).frozen? x=((w.drew.alloc (.cells ROW 43)).setCells w.heap.size (i * 2) vs).frozen? x:=fun x=>rfl
 have hw1:IntKind.i64.wrap ((i:Int) + 1)=(i:Int) + 1:=by rw [IntKind.wrap_i64];omega
 have hb1:(0:Int)≤(i:Int) + 1:=by omega
 have hin:i≤n:=by omega
 have htn:((i:Int) + 1).toNat=i + 1:=by omega
 have hb3:(i:Int)≤(n:Int):=by omega
 go_enter Tryz.func169,Tryz.ntmps169
 go_wp2_with (first
  | (at_builtin;refine ins_at_append _ rfl _ _ 72 3 rfl _ _ rfl rfl hrz ?_)
  | (at_builtin;refine ins_at_copy _ rfl _ _ 72 26 rfl _ _ rfl rfl (hcpA _ hE1 hE2 _ _) ?_)
  | (at_builtin;refine ins_at_copy _ rfl _ _ 72 72 rfl _ _ rfl rfl (hcpB _ (fun _=>rfl) (fun _=>rfl) _ _ _) ?_))
 go_region_law_o (refine ins_step rfl _ _ 72 72 rfl (.slice (some ⟨w.heap.size,(i + 1) * 2,none⟩) (n - i) (G - (i + 1))) (.slice (some ⟨b,off + i * 2,none⟩) (n - i) (c - i)) (by simp [Act.eval,Act.put]) (by simp [Act.eval,Act.put]) (hcpB _ hF1 hF2 3 (G - (i + 1)) (c - i)) ?_)
 go_wp2
 go_ret
 exact ⟨rfl,rfl⟩
theorem insSays:InsSays Tryz.prog 169 72 26 3 43:=⟨fun b off n c i vb voff vc cs vs w h1 h2 h3 h4 h5 h6 h7 h8 h9 h10 h11 h12 tA tB kA kB h13 h14 h15=>ins_shift b off n c i vb voff vc cs vs w h1 h2 h3 h4 h5 h6 h7 h8 h9 h10 h11 h12 tA tB kA kB h13 h14 h15,fun base n c vb voff vc w w1 rv h1 h2 h3 h4=>ins_end base n c vb voff vc w w1 rv h1 h2 h3 h4,fun b off n c i vb voff vc G cs vs ROW w h1 h2 h3 h4 h5 h6 h7 h8 h9 h10 h11 h12 h13=>ins_grow b off n c i vb voff vc G cs vs ROW w h1 h2 h3 h4 h5 h6 h7 h8 h9 h10 h11 h12 h13⟩
end Go.Proofs.YtgbheglnmdnkoaaGreatDoor.E.SF
/- The seat's codes stand the evaluator's look; its library calls say what they say. -/
open Go Go.Proofs Go.RowKit Go.Proofs.YtgbheglnmdnkoaaGreatDoor
namespace Go.Proofs.YtgbheglnmdnkoaaGreatDoor.E.SF
theorem codesOK (mm : FuncId → List AV → Option (AV × List Blk)) (m : Int) : (List.range 333).all (fun f => match Tryz.prog.funcs[f]? with
      | some fn => !(fn.name == "runtime.NumGoroutine") && (match FI.of fn with | some fi => codeOK (cfgM mm m) f fi.body | none => true)
      | none => true) = true := by kernel_rfl
theorem tysOKm {mm : FuncId → List AV → Option (AV × List Blk)} {m : Int} : TysOK Tryz.prog (cfgM mm m) := fun t ti h => by
  have h : (bif Nat.blt t 434 then tyAt tys t else none) = some ti := h
  simp only [cond_eq_ite] at h
  split at h
  · rename_i hlt
    rw [range_map tysOK t (blt_lt hlt)] at h
    exact tiOf_ok h
  · cases h
theorem ordOK : Tryz.prog.follows .mixedOrders = true := by kernel_rfl
theorem below_fmt (w : World) (k : Nat) (os : Array Obj) : Below w.heap.size w (Go.Sort.grow (w.drewN k) os) := ⟨rfl, rfl, rfl, by simp [Go.Sort.grow], fun i hi => Array.getElem?_append_left (by simpa using hi)⟩
theorem below_pi {w w' : World} {e : TypeId} (h : w' = w ∨ ∃ t, w' = Lib.bytesWorld w e t) : Below w.heap.size w w' := by
  rcases h with rfl | ⟨t, rfl⟩
  · exact Below.refl _ _
  · exact Lib.bytesWorld_below w _ _
theorem formatSays : FormatSays Tryz.prog 196 := fun n w h0 h1 ht => Calls.mono (Tryz.strconv_FormatInt_10 n h0 h1 w ht) fun _ _ ⟨e, k, os, h⟩ => ⟨e, by rw [h]; exact below_fmt _ _ _⟩
theorem parseSays : ParseSays Tryz.prog 280 408 414 4 5 := fun s w hs =>
  ⟨fun v hv => Calls.mono (Tryz.strconv_ParseInt_10_at64_ok s (by omega) v hv w) fun _ _ ⟨e, h⟩ => ⟨e, below_pi h⟩,
   fun te pe h1 h2 hc => by
    cases hv : Lib.parseIntB 64 s.data.toList with
    | ok v => exact absurd hv (h1 v)
    | range => exact absurd hv h2
    | _ => exact Any.strconv_ParseInt_10_at64_syntax Tryz.laysC174 s hs hv _ w hc (.inr ⟨te, pe, rfl⟩),
   fun te pe hv hc => Tryz.strconv_ParseInt_10_at64_range s hs hv _ w hc (.inr ⟨te, pe, rfl⟩)⟩
set_option maxRecDepth 100000 in
theorem extOK (mm : FuncId → List AV → Option (AV × List Blk)) (m : Int) : ∀ f e, ext f = some e → ∀ args v hp, e args = some v → ∀ B w0 L w (rargs : List Value), Inv (glob m) B w0 L w hp → CR hp.length L w args rargs → FCalls Tryz.prog f rargs.toArray w (CallPost (cfgM mm m) B w0 L w hp.length v hp) := by
  intro f e he args v hp hv B w0 L w rargs hI hA
  unfold ext at he
  cases h1 : Nat.beq f 187 with
  | true =>
    rw [h1] at he
    cases he
    obtain rfl := Nat.eq_of_beq_eq_true h1
    exact extCmp_ok (C := cfgM mm m) Tryz.func187 (by kernel_rfl) (by kernel_rfl) (by kernel_rfl) (by kernel_rfl) args v hp hv B w0 L w rargs hI hA
  | false =>
    rw [h1] at he
    cases h2 : Nat.beq f 229 with
    | true =>
      rw [h2] at he
      cases he
      obtain rfl := Nat.eq_of_beq_eq_true h2
      exact extIx_ok (C := cfgM mm m) Tryz.func229 (by kernel_rfl) (by kernel_rfl) (by kernel_rfl) (by kernel_rfl) args v hp hv B w0 L w rargs hI hA
    | false =>
      rw [h2] at he
      cases h3 : Nat.beq f 196 with
      | true =>
        rw [h3] at he
        cases he
        obtain rfl := Nat.eq_of_beq_eq_true h3
        exact extFmt_ok (C := cfgM mm m) (g := 1) Tryz.func196 (by kernel_rfl) (by kernel_rfl) formatSays (by kernel_rfl) rfl args v hp hv B w0 L w rargs hI hA
      | false =>
        rw [h3] at he
        cases h4 : Nat.beq f 280 with
        | true =>
          rw [h4] at he
          cases he
          obtain rfl := Nat.eq_of_beq_eq_true h4
          exact extPI_ok (C := cfgM mm m) (T := 408) (q := 414) (gS := 4) (gR := 5) Tryz.func280 (by kernel_rfl) (by kernel_rfl) parseSays rfl rfl args v hp hv B w0 L w rargs hI hA
        | false =>
          rw [h4] at he
          cases he
set_option maxRecDepth 100000 in
theorem insOK (mm : FuncId → List AV → Option (AV × List Blk)) (m : Int) : ∀ f q, ins f = some q → ∀ fl args hp v hp', insE (cfgM mm m) fl f args hp = some (v, hp') → ∀ B w0 L w (rargs : List Value), Inv (glob m) B w0 L w hp → CR hp.length L w args rargs → FCalls Tryz.prog f rargs.toArray w (CallPost (cfgM mm m) B w0 L w hp.length v hp') := by
  intro f q hq
  unfold ins at hq
  cases h1 : Nat.beq f 169 with
  | true =>
    rw [h1] at hq
    obtain rfl := Nat.eq_of_beq_eq_true h1
    exact insE_ok (P := Tryz.prog) (C := cfgM mm m) tysOKm (f := 169) (fn := Tryz.f169) Tryz.func169 (by kernel_rfl) (by kernel_rfl) (tS := 72) (tV := 26) (tI := 3) (tE := 43) (show (cfgM mm m).ty 72 = some ⟨.slice 43, 1, 24, [.nilS], false⟩ by kernel_rfl) (show (cfgM mm m).ty 26 = some ⟨.slice 43, 1, 24, [.nilS], false⟩ by kernel_rfl) (show (cfgM mm m).ty 3 = some ⟨.int .i64, 1, 8, [.int .i64 0], true⟩ by kernel_rfl) (show (cfgM mm m).ty 43 = some ⟨.struct [(0, 9), (1, 9)], 2, 32, [.str [], .str []], true⟩ by kernel_rfl) rfl rfl (z := .agg [.str [], .str []]) rfl rfl insSays (by kernel_rfl)
  | false =>
    rw [h1] at hq
    cases hq
set_option maxRecDepth 100000 in
theorem tabM (mm : FuncId → List AV → Option (AV × List Blk)) (m : Int) (hm : ∀ f args r, mm f args = some r → ∀ hp B w0 L w (rargs : List Value), Inv (glob m) B w0 L w hp → CR hp.length L w args rargs → FCalls Tryz.prog f rargs.toArray w (CallPost (cfgM mm m) B w0 L w hp.length (shA hp.length r.1) (hp ++ r.2.map (shB hp.length)))) : TabOK Tryz.prog (cfgM mm m) := mkTab tysOK fnsOK (codesOK mm m) ordOK (extOK mm m) (hins := insOK mm m) (hmemo := hm)
theorem tab0 (m : Int) : TabOK Tryz.prog (cfg0 m) := tabM _ m (by intro f args r h; cases h)
end Go.Proofs.YtgbheglnmdnkoaaGreatDoor.E.SF
