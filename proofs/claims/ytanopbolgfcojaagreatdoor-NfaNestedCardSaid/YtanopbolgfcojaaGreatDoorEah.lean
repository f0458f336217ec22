/- Steps of the seat's proofs: an evaluator of the program's code, its soundness, and what the functions come to. -/
import Derived.Test.YtanopbolgfcojaaGreatDoorEag
set_option linter.unusedSimpArgs false
set_option linter.unusedVariables false
namespace Go.Proofs.YtanopbolgfcojaaGreatDoor.E.R
theorem or_has (s t:W4) (x:Nat):(E.SZ.W4.or s t).has x=(s.has x||t.has x):=by
 unfold W4.has W4.word E.SZ.W4.or
 split <;> simp
theorem zero_has (x:Nat):W4.zero.has x=false:=by
 unfold W4.has W4.word W4.zero
 split <;> simp
end Go.Proofs.YtanopbolgfcojaaGreatDoor.E.R
namespace Go.Proofs.YtanopbolgfcojaaGreatDoor.E.SZ
open Go Go.Proofs E E.R
theorem single_has (c:UInt8) (x:Nat) (hx:x < 256):(W4.zero.with c c).has x=decide (x=c.toNat):=by
 rw [W4.with_has _ _ _ _ hx,zero_has,Bool.false_or]
 have:(c.toNat≤x∧x≤c.toNat)↔x=c.toNat:=by omega
 simp only [this]
theorem with_ne {a b:UInt8} (h:a.toNat≤b.toNat):W4.zero.with a b≠W4.zero:=fun e=>by
 have h1:=W4.with_has W4.zero a b a.toNat a.toNat_lt
 rw [e,zero_has] at h1
 simp [h] at h1
theorem runEnd_has {s:W4}:∀ (f k:Nat),s.has k=true→∀ x,k≤x→x≤runEnd s f k→s.has x=true
 | 0,k,h,x,h1,h2=>by
  simp only [runEnd] at h2
  have:x=k:=by omega
  rw [this];exact h
 | f + 1,k,h,x,h1,h2=>by
  unfold runEnd at h2
  split at h2
  ·rename_i h3
   by_cases hx:x=k
   ·rw [hx];exact h
   ·exact runEnd_has f (k + 1) h3.2 x (by omega) h2
  ·have:x=k:=by omega
   rw [this];exact h
theorem runs_ord {s:W4}:∀ (f k:Nat),∀ r ∈ runsF s f k,k≤r.1∧r.1≤r.2∧r.2 < 256
 | 0,k,r,h=>by simp [runsF] at h
 | f + 1,k,r,h=>by
  unfold runsF at h
  split at h
  ·rename_i hk
   have hb:=runEnd_bd s 256 k
   split at h
   ·rcases List.mem_cons.1 h with rfl | h
    ·exact ⟨Nat.le_refl _,hb.1,hb.2 hk⟩
    ·have:=runs_ord f _ r h;exact ⟨by omega,this.2⟩
   ·have:=runs_ord f _ r h;exact ⟨by omega,this.2⟩
  ·cases h
theorem runs_has {s:W4}:∀ (f k:Nat),256≤f + k→∀ x,k≤x→x < 256→(s.has x=true↔∃ r ∈ runsF s f k,r.1≤x∧x≤r.2)
 | 0,k,h,x,h1,h2=>by omega
 | f + 1,k,h,x,h1,h2=>by
  unfold runsF
  rw [if_pos (by omega)]
  have hb:=runEnd_bd s 256 k
  by_cases hk:s.has k=true
  ·rw [if_pos hk]
   by_cases hx:x≤runEnd s 256 k
   ·exact ⟨fun _=>⟨_,List.mem_cons_self ..,h1,hx⟩,fun _=>runEnd_has 256 k hk x h1 hx⟩
   ·rw [runs_has f (runEnd s 256 k + 1) (by omega) x (by omega) h2]
    constructor
    ·rintro ⟨r,hr,h3⟩;exact ⟨r,List.mem_cons_of_mem _ hr,h3⟩
    ·rintro ⟨r,hr,h3⟩
     rcases List.mem_cons.1 hr with rfl | hr
     ·exact absurd h3.2 hx
     ·exact ⟨r,hr,h3⟩
  ·rw [if_neg hk]
   by_cases hx:x=k
   ·subst hx
    constructor
    ·intro h;exact absurd h hk
    ·rintro ⟨r,hr,h3⟩
     have:=runs_ord f _ r hr
     omega
   ·exact runs_has f (k + 1) (by omega) x (by omega) h2
def unionR (acc:W4):List (Nat × Nat)→W4
 | []=>acc
 | r::l=>unionR (W4.or acc (W4.zero.with (UInt8.ofNat r.1) (UInt8.ofNat r.2))) l
theorem u8n {n:Nat} (h:n < 256):(UInt8.ofNat n).toNat=n:=by rw [UInt8.toNat_ofNat'];exact Nat.mod_eq_of_lt h
theorem unionR_has:∀ (l:List (Nat × Nat)) (acc:W4),(∀ r ∈ l,r.1 < 256∧r.2 < 256)→∀ x,x < 256→((unionR acc l).has x=true↔acc.has x=true∨∃ r ∈ l,r.1≤x∧x≤r.2)
 | [],acc,_,x,_=>by simp [unionR]
 | r::l,acc,h,x,hx=>by
  have hr:=h r (by simp)
  unfold unionR
  rw [unionR_has l _ (fun q hq=>h q (by simp [hq])) x hx,or_has,W4.with_has _ _ _ _ hx,zero_has,u8n hr.1,u8n hr.2]
  simp only [Bool.false_or,Bool.or_eq_true,decide_eq_true_eq,List.mem_cons,exists_eq_or_imp]
  rw [or_assoc]
theorem union_runs (s:W4):unionR W4.zero (runsF s 256 0)=s:=by
 apply W4.ext
 intro x hx
 have h1:=unionR_has (runsF s 256 0) W4.zero (fun r hr=>by have:=runs_ord 256 0 r hr;omega) x hx
 have h2:=runs_has (s:=s) 256 0 (by omega) x (by omega) hx
 rw [zero_has] at h1
 rw [Bool.eq_iff_iff,h1,h2]
 simp
theorem cnt_one {s:W4} {c:Nat} (h:∀ x,x < 256→s.has x=decide (x=c)):∀ n,n≤256→W4.cntTo s n=if c < n then 1 else 0
 | 0,_=>by simp [W4.cntTo]
 | n + 1,hn=>by
  unfold W4.cntTo
  rw [cnt_one h n (by omega),h n (by omega)]
  by_cases h1:n=c
  ·subst h1;simp
  ·simp only [h1,decide_false,Bool.false_eq_true,if_false]
   by_cases h2:c < n
   ·rw [if_pos h2,if_pos (by omega)]
   ·rw [if_neg h2,if_neg (by omega)]
theorem cnt_single (c:UInt8):W4.cntTo (W4.zero.with c c) 256=1:=by
 rw [cnt_one (c:=c.toNat) (fun x hx=>single_has c x hx) 256 (Nat.le_refl _),if_pos c.toNat_lt]
theorem cnt_two {s:W4}:∀ n,(∃ x y,x < y∧y < n∧s.has x=true∧s.has y=true)→2≤W4.cntTo s n
 | 0,⟨x,y,_,h,_⟩=>by omega
 | n + 1,⟨x,y,h1,h2,h3,h4⟩=>by
  unfold W4.cntTo
  by_cases hy:y=n
  ·subst hy
   rw [if_pos h4]
   have:1≤W4.cntTo s y:=by
    have:∀ n,x < n→1≤W4.cntTo s n:=fun n=>by
     induction n with
     | zero=>intro h;omega
     | succ n ih =>
      intro h
      unfold W4.cntTo
      by_cases hx:x=n
      ·subst hx;rw [if_pos h3];omega
      ·have:=ih (by omega);omega
    exact this y h1
   omega
  ·have:=cnt_two n ⟨x,y,h1,by omega,h3,h4⟩
   omega
theorem single_of {s:W4} (h:W4.cntTo s 256=1):∃ c:UInt8,s=W4.zero.with c c:=by
 obtain ⟨k,hk,hh⟩:=cnt_pos (s:=s) 256 (by omega)
 refine ⟨UInt8.ofNat k,W4.ext fun x hx => ?_⟩
 rw [single_has _ _ hx,u8n hk]
 by_cases hxk:x=k
 ·subst hxk;simp [hh]
 ·have:¬ s.has x=true:=fun g=>by
   have h2:2≤W4.cntTo s 256:=by
    rcases Nat.lt_or_gt_of_ne hxk with h3 | h3
    ·exact cnt_two 256 ⟨x,k,h3,hk,g,hh⟩
    ·exact cnt_two 256 ⟨k,x,h3,hx,hh,g⟩
   omega
  simp [hxk,this]
theorem runs_single (c:UInt8):∃ e l,runsF (W4.zero.with c c) 256 0=(c.toNat,e)::l:=by
 have hne:=runsF_ne (s:=W4.zero.with c c) 256 0 c.toNat (by omega) c.toNat_lt (by rw [single_has _ _ c.toNat_lt];simp) (by omega)
 cases hr:runsF (W4.zero.with c c) 256 0 with
 | nil=>exact absurd hr hne
 | cons r l =>
  have ho:=runs_ord (s:=W4.zero.with c c) 256 0 r (by rw [hr];simp)
  have hh:=(runs_has (s:=W4.zero.with c c) 256 0 (by omega) r.1 (by omega) (by omega)).2 ⟨r,by rw [hr];simp,Nat.le_refl _,ho.2.1⟩
  rw [single_has _ _ (by omega)] at hh
  have:r.1=c.toNat:=of_decide_eq_true hh
  exact ⟨r.2,l,by rw [← this]⟩
theorem low_single (c:UInt8):lowU (W4.zero.with c c)=c:=by
 obtain ⟨e,l,h⟩:=runs_single c
 unfold lowU
 rw [h]
 exact UInt8.ofNat_toNat
theorem mem_esc (b:UInt8) (t:List UInt8):memL (escT b icS++t)=some (W4.zero.with b b,t):=by
 unfold escT
 by_cases h:oneOf icS b=true
 ·rw [if_pos h]
  show memL (92::(b::t))=_
  unfold memL
  dsimp only
  rw [if_pos rfl]
  have hb:b=92∨b=93∨b=45∨b=94:=by
   unfold oneOf at h
   have h2:ixB b.toNat icS 0≥0:=of_decide_eq_true h
   simp only [ixB] at h2
   repeat' (first | (rw [cond_eq_ite] at h2;split at h2))
   ·rename_i g;left;exact (UInt8.toNat_inj.1 (Nat.eq_of_beq_eq_true g)).symm
   ·rename_i g;right;left;exact (UInt8.toNat_inj.1 (Nat.eq_of_beq_eq_true g)).symm
   ·rename_i g;right;right;left;exact (UInt8.toNat_inj.1 (Nat.eq_of_beq_eq_true g)).symm
   ·rename_i g;right;right;right;exact (UInt8.toNat_inj.1 (Nat.eq_of_beq_eq_true g)).symm
   ·omega
  have e:escS b=W4.zero.with b b:=by rcases hb with rfl | rfl | rfl | rfl <;> rfl
  unfold escL
  dsimp only
  rw [e,if_neg (with_ne (Nat.le_refl _))]
 ·rw [if_neg h]
  show (if b=92 then escL t else if oneOf inClass b=true then none else some (W4.zero.with b b,t))=_
  rw [if_neg (fun e=>h (by rw [e];decide)),if_neg (show ¬ oneOf inClass b=true from h)]
theorem esc_hd (b:UInt8) (t:List UInt8):(escT b icS++t).headD 0≠93∧(escT b icS++t).headD 0≠45∧(escT b icS++t).headD 0≠94:=by
 unfold escT
 by_cases h:oneOf icS b=true
 ·rw [if_pos h];exact ⟨show (92:UInt8)≠93 by decide,show (92:UInt8)≠45 by decide,show (92:UInt8)≠94 by decide⟩
 ·rw [if_neg h]
  show b≠93∧b≠45∧b≠94
  exact ⟨fun e=>h (by rw [e];decide),fun e=>h (by rw [e];decide),fun e=>h (by rw [e];decide)⟩
theorem item_one (a:UInt8) (t:List UInt8) (h:t.headD 0≠45):itemL (escT a icS++t)=some (W4.zero.with a a,t):=by
 unfold itemL
 rw [mem_esc]
 cases t with
 | nil=>rfl
 | cons c t =>
  dsimp only
  rw [if_neg (show ¬ c=45 from h)]
theorem item_rng (a b:UInt8) (t:List UInt8) (h:a.toNat≤b.toNat):itemL (escT a icS++(45::(escT b icS++t)))=some (W4.zero.with a b,t):=by
 unfold itemL
 rw [mem_esc]
 dsimp only
 rw [if_pos rfl,mem_esc]
 dsimp only
 rw [cnt_single,cnt_single,low_single,low_single,if_pos ⟨rfl,rfl,h⟩]
theorem clsT_cons (r:Nat × Nat) (l:List (Nat × Nat)):clsT (r::l)=(escT (UInt8.ofNat r.1) icS++(if r.1 < r.2 then 45::escT (UInt8.ofNat r.2) icS else []))++clsT l:=rfl
theorem clsT_hd (l:List (Nat × Nat)) (t:List UInt8):(clsT l++93::t).headD 0≠45:=by
 cases l with
 | nil=>show (93:UInt8)≠45;decide
 | cons r l =>
  rw [clsT_cons]
  rw [List.append_assoc,List.append_assoc]
  exact (esc_hd _ _).2.1
theorem cls_runs:∀ (l:List (Nat × Nat)) (f:Nat) (acc:W4) (first:Bool) (t:List UInt8),l.length < f→(∀ r ∈ l,r.1≤r.2∧r.2 < 256)→(l=[]→first=false)→clsL f acc first (clsT l++93::t)=some (unionR acc l,t)
 | _,0,_,_,_,h,_,_=>by omega
 | [],f + 1,acc,first,t,_,_,hf=>by
  show (if first=false∧(93:UInt8)=93 then _ else _)=_
  rw [if_pos ⟨hf rfl,rfl⟩];rfl
 | r::l,f + 1,acc,first,t,h,hr,_=>by
  have h0:=hr r (by simp)
  have ih:=fun acc=>cls_runs l f acc false t (by simpa using h) (fun q hq=>hr q (by simp [hq])) (fun _=>rfl)
  have hh:(clsT (r::l)++93::t).headD 0≠93:=by
   rw [clsT_cons]
   rw [List.append_assoc,List.append_assoc]
   exact (esc_hd _ _).1
  show (if first=false∧(clsT (r::l)++93::t).headD 0=93 then _ else _)=_
  rw [if_neg (fun g=>hh g.2)]
  have e:itemL (clsT (r::l)++93::t)=some (W4.zero.with (UInt8.ofNat r.1) (UInt8.ofNat r.2),clsT l++93::t):=by
   rw [clsT_cons]
   rw [List.append_assoc,List.append_assoc]
   by_cases hlt:r.1 < r.2
   ·rw [if_pos hlt]
    exact item_rng _ _ _ (by rw [u8n (n:=r.1) (by omega),u8n (n:=r.2) h0.2];omega)
   ·rw [if_neg hlt,List.nil_append,show r.2=r.1 by omega]
    exact item_one _ _ (clsT_hd l t)
  rw [e]
  exact ih _
theorem atom_set {rec:List UInt8→RL} {s:W4} (hs:s≠W4.zero) (t:List UInt8):atomL rec (putS s++t)=some (.one s,t):=by
 unfold putS
 by_cases h0:s=dotS
 ·rw [if_pos h0,h0];rfl
 rw [if_neg h0]
 by_cases h1:((W4.cntTo s 256:Nat):Int)=1
 ·rw [if_pos h1]
  obtain ⟨c,rfl⟩:=single_of (s:=s) (by omega)
  obtain ⟨e,l,hr⟩:=runs_single c
  rw [hr]
  simp only [List.headD_cons,UInt8.ofNat_toNat]
  unfold escT
  by_cases hsp:oneOf spS c=true
  ·rw [if_pos hsp]
   show (match escL (c::t) with | none=>none | some (x,t')=>some (Node.one x,t'))=_
   have hq:escS c=W4.zero.with c c:=by
    have hne:∀ d:UInt8,isLit d=true→c≠d:=fun d hd e=>by rw [e] at hsp;exact sp_of hd hsp
    unfold escS
    rw [if_neg (hne 110 (by decide)),if_neg (hne 116 (by decide)),if_neg (hne 100 (by decide)),if_neg (hne 119 (by decide)),if_neg (hne 115 (by decide)),if_pos (.inr hsp)]
   unfold escL
   dsimp only
   rw [hq,if_neg (with_ne (Nat.le_refl _))]
  ·have hsp':¬ oneOf specials c=true:=hsp
   rw [if_neg hsp]
   have hl:isLit c=true:=by unfold isLit;simpa using hsp'
   show atomL rec (c::t)=_
   unfold atomL
   dsimp only
   rw [if_neg (lit_ne hl (by decide)),if_neg (lit_ne hl (by decide)),if_neg (lit_ne hl (by decide)),if_neg (lit_ne hl (by decide)),if_neg (lit_ne hl (by decide)),if_neg (lit_ne hl (by decide)),if_neg hsp']
 ·rw [if_neg h1]
  have hne:runsF s 256 0≠[]:=fun e=>by
   apply hs
   rw [← union_runs s,e];rfl
  have hcl:classL (clsT (runsF s 256 0)++93::t)=some (s,t):=by
   have hh:(clsT (runsF s 256 0)++93::t).headD 0≠94:=by
    cases hr:runsF s 256 0 with
    | nil=>exact absurd hr hne
    | cons r l =>
     rw [clsT_cons]
     rw [List.append_assoc,List.append_assoc]
     exact (esc_hd _ _).2.2
   unfold classL
   rw [if_neg hh]
   have hlen:(runsF s 256 0).length≤(clsT (runsF s 256 0)).length:=by
    generalize runsF s 256 0=l
    induction l with
    | nil=>simp
    | cons r l ih =>
     have:1≤(escT (UInt8.ofNat r.1) icS).length:=by unfold escT;split <;> simp
     simp only [clsT,List.length_append,List.length_cons] at *;omega
   rw [cls_runs (runsF s 256 0) _ W4.zero true t (by simp;omega) (fun r hr=>(runs_ord 256 0 r hr).2) (fun e=>absurd e hne),union_runs]
   dsimp only
   rw [if_neg hh,if_neg hs]
  show (match classL (clsT (runsF s 256 0)++[93]++t) with | none=>none | some (x,t')=>some (Node.one x,t'))=_
  rw [List.append_assoc,show [93]++t=93::t from rfl,hcl]
end Go.Proofs.YtanopbolgfcojaaGreatDoor.E.SZ
namespace Go.Proofs.YtanopbolgfcojaaGreatDoor.E.SZ
open Go Go.Proofs E E.R Go.Lib
theorem dig21:∀ k,k < 21→((itoaE ((k:Nat):Int)).all isDig=true∧numP (itoaE ((k:Nat):Int))=(((k:Nat):Int),true)):=by decide +kernel
theorem while_digs {l t:List UInt8} (h:l.all isDig=true) (hc:isDig (t.headD 0)=false):(l++t).takeWhile isDig=l∧(l++t).dropWhile isDig=t:=by
 induction l with
 | nil =>
  cases t with
  | nil=>exact ⟨rfl,rfl⟩
  | cons c t =>
   have hc':¬ isDig c=true:=by simpa using hc
   rw [List.nil_append,List.takeWhile_cons_of_neg hc',List.dropWhile_cons_of_neg hc']
   exact ⟨rfl,rfl⟩
 | cons c l ih =>
  simp only [List.all_cons,Bool.and_eq_true] at h
  obtain ⟨h1,h2⟩:=ih h.2
  rw [List.cons_append,List.takeWhile_cons_of_pos h.1,List.dropWhile_cons_of_pos h.1,h1,h2]
  exact ⟨rfl,rfl⟩
theorem num_lit {k:Int} {t:List UInt8} (h0:0≤k) (h1:k≤20) (hc:isDig (t.headD 0)=false):numL (itoaE k++t)=some (k,t):=by
 obtain ⟨n,rfl⟩:∃ n:Nat,k=n:=⟨k.toNat,by omega⟩
 obtain ⟨g1,g2⟩:=dig21 n (by omega)
 obtain ⟨w1,w2⟩:=while_digs g1 hc
 unfold numL
 rw [w1,w2]
 show (if (numP (itoaE n)).2=true∧(numP (itoaE n)).1≤20 then some ((numP (itoaE n)).1,t) else none)=_
 rw [g2,if_pos ⟨rfl,h1⟩]
theorem brc_a {r t:List UInt8} {a:Int} (h:numL r=some (a,125::t)):brcL r=some (a,a,t):=by
 unfold brcL
 rw [h]
 simp
theorem brc_e {r t:List UInt8} {a:Int} (h:numL r=some (a,44::125::t)):brcL r=some (a, -1,t):=by
 unfold brcL
 rw [h]
 simp
theorem brc_ab {r r1 t:List UInt8} {a b:Int} (h:numL r=some (a,44::r1)) (h2:r1.headD 0≠125) (h3:numL r1=some (b,125::t)) (h4:a≤b):brcL r=some (a,b,t):=by
 unfold brcL
 rw [h]
 simp [h3,h4]
 exact fun e=>absurd (by simpa using e) h2
theorem times_rd {n:Node} {a b:Int} {t:List UInt8} (h0:0≤a) (h1:a≤20) (h2:b = -1∨a≤b∧b≤20):timesL n (timesT a b++t)=some (.mk 6 W4.zero a b [n],t):=by
 unfold timesT
 by_cases c1:a=0∧b = -1
 ·rw [if_pos c1,c1.1,c1.2];rfl
 rw [if_neg c1]
 by_cases c2:a=1∧b = -1
 ·rw [if_pos c2,c2.1,c2.2];rfl
 rw [if_neg c2]
 by_cases c3:a=0∧b=1
 ·rw [if_pos c3,c3.1,c3.2];rfl
 rw [if_neg c3]
 have hd:∀ r:List UInt8,brcL r=some (a,b,t)→timesL n (123::r)=some (.mk 6 W4.zero a b [n],t):=fun r hr=>by
  unfold timesL
  simp [hr]
 by_cases c4:b=a
 ·rw [if_pos c4]
  refine hd (itoaE a++[125]++t) ?_
  rw [List.append_assoc,c4]
  exact brc_a (num_lit h0 h1 (by show isDig 125=false;decide))
 rw [if_neg c4]
 by_cases c5:b = -1
 ·rw [if_pos c5]
  refine hd (itoaE a++[44]++[125]++t) ?_
  rw [List.append_assoc,List.append_assoc,c5]
  exact brc_e (num_lit h0 h1 (by show isDig 44=false;decide))
 rw [if_neg c5]
 refine hd (itoaE a++([44]++itoaE b)++[125]++t) ?_
 have hb:a≤b∧b≤20:=h2.resolve_left c5
 rw [List.append_assoc,List.append_assoc]
 have hx:(itoaE b++([125]++t)).headD 0≠125:=by
  obtain ⟨k,rfl⟩:∃ k:Nat,b=k:=⟨b.toNat,by omega⟩
  obtain ⟨g1,g2⟩:=dig21 k (by omega)
  cases hq:itoaE (k:Int) with
  | nil=>rw [hq] at g2;exact absurd g2 (by rw [show numP []=(0,false) by decide +kernel];simp)
  | cons c l =>
   rw [hq] at g1
   simp only [List.all_cons,Bool.and_eq_true] at g1
   show c≠125
   intro e
   rw [e] at g1
   exact absurd g1.1 (by decide)
 exact brc_ab (num_lit h0 h1 (by show isDig 44=false;decide)) hx (num_lit (by omega) hb.2 (by show isDig 125=false;decide)) hb.1
theorem numP_true {s:List UInt8} (h:(numP s).2=true):itoaE (numP s).1=s:=by
 unfold numP at h ⊢
 cases hp:parseIntB 64 s with
 | ok v =>
  rw [hp] at h
  dsimp only at h ⊢
  by_cases he:itoaE v=s
  ·rw [if_pos he];exact he
  ·rw [if_neg he] at h;cases h
 | range=>rw [hp] at h;cases h
 | _=>rw [hp] at h;cases h
theorem num_bd {t r:List UInt8} {v:Int} (h:numL t=some (v,r)):0≤v∧v≤20:=by
 unfold numL at h
 split at h
 ·rename_i hc
  injection h with h
  injection h with h _
  rw [h] at hc
  refine ⟨?_,hc.2⟩
  rcases Int.lt_or_le v 0 with hv | hv
  ·exfalso
   have h1:(numP (t.takeWhile isDig)).2=true:=hc.1
   have h2:(numP (t.takeWhile isDig)).1=v:=h
   have he:=numP_true h1
   rw [h2] at he
   have h3:itoaE v=45::dDig 20 v.natAbs:=by unfold itoaE;rw [decide_eq_true hv];rfl
   rw [h3] at he
   have h4:∀ c ∈ t.takeWhile isDig,isDig c=true:=fun c hc=>List.all_eq_true.1 List.all_takeWhile c hc
   rw [← he] at h4
   exact absurd (h4 45 (by simp)) (by decide)
  ·exact hv
 ·cases h
def NormE (n:Node):Prop:=∃ d,Norm d n
theorem list_norm:∀ {l:List Node},(∀ n ∈ l,NormE n)→∃ d,∀ n ∈ l,Norm d n
 | [],_=>⟨0,fun n h=>by cases h⟩
 | n::l,h=>by
  obtain ⟨d,hd⟩:=list_norm (l:=l) fun q hq=>h q (by simp [hq])
  obtain ⟨e,he⟩:=h n (by simp)
  refine ⟨max d e,fun q hq => ?_⟩
  rcases List.mem_cons.1 hq with rfl | hq
  ·exact he.mono (by omega)
  ·exact (hd q hq).mono (by omega)
theorem NormE.mk {n:Node} (h:Shape n) (hk:∀ k ∈ n.kids,NormE k):NormE n:=by
 obtain ⟨d,hd⟩:=list_norm hk
 exact ⟨d + 1,h,hd⟩
theorem NormE.kid {n k:Node} (h:NormE n) (hk:k ∈ n.kids):NormE k:=by
 obtain ⟨d,hd⟩:=h
 cases d with
 | zero=>exact hd.elim
 | succ d=>exact ⟨d,hd.2 k hk⟩
theorem NormE.shape {n:Node} (h:NormE n):Shape n:=by
 obtain ⟨d,hd⟩:=h
 cases d with
 | zero=>exact hd.elim
 | succ d=>exact hd.1
theorem one_norm {s:W4} (h:s≠W4.zero):NormE (.one s) := .mk (.one s h) (fun k hk=>by cases hk)
theorem esc_ne {t r:List UInt8} {x:W4} (h:escL t=some (x,r)):x≠W4.zero:=by
 unfold escL at h
 split at h
 ·cases h
 ·split at h
  ·cases h
  ·rename_i hz;cases h;exact hz
theorem class_ne {t r:List UInt8} {x:W4} (h:classL t=some (x,r)):x≠W4.zero:=by
 unfold classL at h
 split at h
 ·cases h
 ·split at h
  ·split at h
   ·cases h
   ·rename_i hz;cases h;exact hz
  ·split at h
   ·cases h
   ·rename_i hz;cases h;exact hz
theorem empty_norm:NormE (.mk 0 W4.zero 0 0 []) := .mk .empty (fun k hk=>by cases hk)
def NormR (rec:List UInt8→RL):Prop:=∀ t n r,rec t=some (n,r)→NormE n
theorem atom_norm {rec:List UInt8→RL} (hr:NormR rec) {t:List UInt8} {n:Node} {r:List UInt8} (h:atomL rec t=some (n,r)):NormE n:=by
 unfold atomL at h
 split at h
 ·cases h
 ·split at h
  ·split at h
   ·cases h
   ·rename_i n' t' hc
    split at h
    ·cases h;exact hr _ _ _ hc
    ·cases h
  split at h
  ·cases h;exact one_norm (by decide +kernel)
  split at h
  ·cases h;exact .mk .beg (fun k hk=>by cases hk)
  split at h
  ·cases h;exact .mk .fin (fun k hk=>by cases hk)
  split at h
  ·split at h
   ·cases h
   ·rename_i x t' he;cases h;exact one_norm (esc_ne he)
  split at h
  ·split at h
   ·cases h
   ·rename_i x t' he;cases h;exact one_norm (class_ne he)
  split at h
  ·cases h
  ·cases h;exact one_norm (with_ne (Nat.le_refl _))
theorem brc_bd {t r:List UInt8} {a b:Int} (h:brcL t=some (a,b,r)):0≤a∧a≤20∧(b = -1∨a≤b∧b≤20):=by
 unfold brcL at h
 split at h
 ·cases h
 ·rename_i v t1 hm
  have h1:=num_bd hm
  split at h
  ·cases h;exact ⟨h1.1,h1.2, .inr ⟨by omega,h1.2⟩⟩
  split at h
  ·split at h
   ·cases h;exact ⟨h1.1,h1.2, .inl rfl⟩
   ·split at h
    ·cases h
    ·rename_i v2 t2 hm2
     have h3:=num_bd hm2
     split at h
     ·rename_i hc;cases h;exact ⟨h1.1,h1.2, .inr ⟨hc.2,h3.2⟩⟩
     ·cases h
  ·cases h
theorem rep_norm {n:Node} {a b:Int} (hn:NormE n) (h0:0≤a) (h1:a≤20) (h2:b = -1∨a≤b∧b≤20):NormE (.mk 6 W4.zero a b [n]) := .mk (.rep a b n h0 h1 h2) (fun k hk=>by
 have:k=n:=by simpa [Node.kids] using hk
 rw [this];exact hn)
theorem times_norm {m n:Node} (hm:NormE m) {t r:List UInt8} (h:timesL m t=some (n,r)):NormE n:=by
 unfold timesL at h
 split at h
 ·cases h;exact rep_norm hm (by omega) (by omega) (.inl rfl)
 split at h
 ·cases h;exact rep_norm hm (by omega) (by omega) (.inl rfl)
 split at h
 ·cases h;exact rep_norm hm (by omega) (by omega) (.inr (by omega))
 split at h
 ·split at h
  ·cases h
  ·rename_i lo hi t' hb
   cases h
   obtain ⟨g1,g2,g3⟩:=brc_bd hb
   exact rep_norm hm g1 g2 g3
 ·cases h;exact hm
theorem piece_norm {rec:List UInt8→RL} (hr:NormR rec) {t:List UInt8} {n:Node} {r:List UInt8} (h:pieceL rec t=some (n,r)):NormE n:=by
 unfold pieceL at h
 split at h
 ·cases h
 ·rename_i m t' ha
  exact times_norm (atom_norm hr ha) h
theorem flat_norm {kd:Int} {l:List Node} (h:∀ n ∈ l,NormE n):∀ n ∈ flatF kd l,NormE n:=by
 induction l with
 | nil=>intro n hn;cases hn
 | cons q l ih =>
  intro n hn
  simp only [flatF] at hn
  rcases List.mem_append.1 hn with hn | hn
  ·split at hn
   ·exact (h q (by simp)).kid hn
   ·have:n=q:=by simpa using hn
    rw [this];exact h q (by simp)
  ·exact ih (fun x hx=>h x (by simp [hx])) n hn
theorem flat_kind {kd:Int} {l:List Node} (hk:kd=4∨kd=5) (h:∀ n ∈ l,NormE n):∀ n ∈ flatF kd l,n.kind≠kd:=by
 induction l with
 | nil=>intro n hn;cases hn
 | cons q l ih =>
  intro n hn
  simp only [flatF] at hn
  rcases List.mem_append.1 hn with h1 | h1
  ·split at h1
   ·rename_i hq
    have hs:=(h q (by simp)).shape
    rcases hk with rfl | rfl
    ·cases hs with
     | cat l' _ hkk=>exact (hkk n h1).2
     | _=>simp [Node.kind] at hq
    ·cases hs with
     | alt l' _ hkk=>exact hkk n h1
     | _=>simp [Node.kind] at hq
   ·rename_i hq
    have:n=q:=by simpa using h1
    rw [this];exact hq
  ·exact ih (fun x hx=>h x (by simp [hx])) n h1
theorem full_mem {l:List Node} {n:Node} (h:n ∈ full l):n ∈ l∧n.kind≠0:=by
 unfold full at h
 rw [List.mem_filter] at h
 exact ⟨h.1,by simpa using h.2⟩
theorem cat_norm {l:List Node} (h:∀ n ∈ l,NormE n):NormE (catF l):=by
 have h1:∀ n ∈ full (flatF 4 l),NormE n∧n.kind≠0∧n.kind≠4:=fun n hn=>⟨flat_norm h n (full_mem hn).1,(full_mem hn).2,flat_kind (.inl rfl) h n (full_mem hn).1⟩
 unfold catF
 generalize full (flatF 4 l)=f at *
 match f with
 | []=>exact empty_norm
 | [n]=>exact (h1 n (by simp)).1
 | x::y::f=>exact .mk (.cat (x::y::f) (by simp) fun k hk=>(h1 k hk).2) fun k hk=>(h1 k hk).1
theorem end_norm {l:List Node} (hl:l≠[]) (h:∀ n ∈ l,NormE n) (hk:∀ n ∈ flatF 5 l,True):NormE (endF l)∨(flatF 5 l).length < 2:=by
 unfold endF
 split
 ·exact .inl (h _ (by simp))
 ·rename_i l' hl'
  by_cases h2:2≤(flatF 5 l).length
  ·exact .inl (.mk (.alt _ h2 fun k hk=>flat_kind (.inr rfl) h k hk) fun k hk=>flat_norm h k hk)
  ·exact .inr (by omega)
theorem flat_len {kd:Int} (hk:kd=5):∀ {l:List Node},(∀ n ∈ l,NormE n)→l.length≤(flatF kd l).length
 | [],_=>by simp
 | n::l,h=>by
  have ih:=flat_len hk (l:=l) fun q hq=>h q (by simp [hq])
  simp only [flatF,List.length_append,List.length_cons]
  have:1≤(if n.kind=kd then n.kids else [n]).length:=by
   split
   ·rename_i hn
    have hs:=(h n (by simp)).shape
    subst hk
    cases hs with
    | alt l' hl _=>simp only [Node.kids];omega
    | _=>simp [Node.kind] at hn
   ·simp
  omega
theorem endF_norm {l:List Node} (hl:l≠[]) (h:∀ n ∈ l,NormE n):NormE (endF l):=by
 match l,hl with
 | [n],_=>exact h n (by simp)
 | a::b::l,_ =>
  rcases end_norm (l:=a::b::l) (by simp) h (fun _ _=>trivial) with h1 | h1
  ·exact h1
  ·have:=flat_len (kd:=5) rfl h
   simp at this;omega
theorem loop_norm {rec:List UInt8→RL} (hr:NormR rec):∀ (f:Nat) (A O:List Node) (t:List UInt8) (A' O':List Node) (r:List UInt8),(∀ n ∈ A,NormE n)→(∀ n ∈ O,NormE n)→loopL rec f A O t=some (A',O',r)→(∀ n ∈ A',NormE n)∧∀ n ∈ O',NormE n
 | 0,_,_,_,_,_,_,_,_,h=>by simp [loopL] at h
 | f + 1,A,O,t,A',O',r,hA,hO,h=>by
  unfold loopL at h
  split at h
  ·cases h;exact ⟨hA,hO⟩
  split at h
  ·exact loop_norm hr f _ _ _ _ _ _ (fun n hn=>by
    rcases List.mem_append.1 hn with hn | hn
    ·exact hA n hn
    ·have:n=catF O:=by simpa using hn
     rw [this];exact cat_norm hO) (fun n hn=>by cases hn) h
  split at h
  ·cases h
  ·rename_i n t' hp
   exact loop_norm hr f _ _ _ _ _ _ hA (fun q hq=>by
    rcases List.mem_append.1 hq with hq | hq
    ·exact hO q hq
    ·have:q=n:=by simpa using hq
     rw [this];exact piece_norm hr hp) h
theorem alt_norm:∀ f,NormR (altL f)
 | 0=>fun t n r h=>by simp [altL] at h
 | f + 1=>fun t n r h=>by
  unfold altL at h
  split at h
  ·cases h
  ·rename_i A O t' hl
   cases h
   obtain ⟨h1,h2⟩:=loop_norm (alt_norm f) _ _ _ _ _ _ _ (fun n hn=>by cases hn) (fun n hn=>by cases hn) hl
   exact endF_norm (by simp) fun n hn=>by
    rcases List.mem_append.1 hn with hn | hn
    ·exact h1 n hn
    ·have:n=catF O:=by simpa using hn
     rw [this];exact cat_norm h2
theorem rdA_norm:NormR rdA:=fun _ n r h=>alt_norm _ _ n r h
theorem Norm.of_dep:∀ {d e:Nat} {n:Node},Norm e n→Dep d n→Norm d n
 | 0,_,_,_,h=>h.elim
 | d + 1,0,_,h,_=>h.elim
 | d + 1,e + 1,_,h,hd=>⟨h.1,fun k hk=>Norm.of_dep (h.2 k hk) (hd k hk)⟩
end Go.Proofs.YtanopbolgfcojaaGreatDoor.E.SZ
namespace Go.Proofs.YtanopbolgfcojaaGreatDoor.E.SZ
open Go Go.Proofs E E.R
def pieces (n:Node):List Node:=if n.kind=0 then [] else if n.kind=4 then n.kids else [n]
def txt (k:Node):List UInt8:=inCat (k.kind,k.put)
theorem joinB_nil:∀ l:List (List UInt8),joinB [] l=l.flatten
 | []=>rfl
 | [x]=>by simp [joinB]
 | x::y::l=>by
  have:=joinB_nil (y::l)
  simp only [joinB,List.nil_append,this,List.flatten_cons]
theorem put_pieces {n:Node} (h:Shape n) (h5:n.kind≠5):n.put=((pieces n).map txt).flatten:=by
 cases h with
 | empty=>rw [put_eq];rfl
 | one s _=>simp [pieces,txt,inCat,Node.kind]
 | beg=>rfl
 | fin=>rfl
 | cat l _ hk =>
  rw [put_eq]
  show joinB [] ((l.map fun n=>(n.kind,n.put)).map inCat)=_
  rw [joinB_nil,List.map_map]
  rfl
 | alt=>exact absurd rfl h5
 | rep a b q=>simp [pieces,txt,inCat,Node.kind]
theorem flat_self {kd:Int}:∀ {l:List Node},(∀ n ∈ l,n.kind≠kd)→flatF kd l=l
 | [],_=>rfl
 | n::l,h=>by
  unfold flatF
  rw [if_neg (h n (by simp)),flat_self fun q hq=>h q (by simp [hq])]
  rfl
theorem full_self {l:List Node} (h:∀ n ∈ l,n.kind≠0):full l=l:=by
 unfold full
 rw [List.filter_eq_self]
 intro n hn
 simp [h n hn]
theorem cat_pieces {n:Node} (h:Shape n) (h5:n.kind≠5):catF (pieces n)=n:=by
 have one:∀ k:Node,k.kind≠0→k.kind≠4→catF [k]=k:=fun k h0 h4=>by
  unfold catF
  rw [flat_self (by simpa using h4),full_self (by simpa using h0)]
 cases h with
 | empty=>rfl
 | one s h=>exact one _ (by simp [Node.kind]) (by simp [Node.kind])
 | beg=>rfl
 | fin=>rfl
 | cat l hl hk =>
  show catF l=_
  unfold catF
  rw [flat_self fun n hn=>(hk n hn).2,full_self fun n hn=>(hk n hn).1]
  match l,hl with
  | a::b::l,_=>rfl
 | alt=>exact absurd rfl h5
 | rep a b q=>exact one _ (by simp [Node.kind]) (by simp [Node.kind])
theorem putS_hd {s:W4} (hs:s≠W4.zero) (t:List UInt8):putS s++t≠[]∧(putS s++t).headD 0≠41∧(putS s++t).headD 0≠124∧quant ((putS s++t).headD 0)=false:=by
 unfold putS
 by_cases h0:s=dotS
 ·rw [if_pos h0];exact ⟨by simp,show (46:UInt8)≠41 by decide,show (46:UInt8)≠124 by decide,show quant 46=false by decide⟩
 rw [if_neg h0]
 by_cases h1:((W4.cntTo s 256:Nat):Int)=1
 ·rw [if_pos h1]
  unfold escT
  by_cases h2:oneOf spS (UInt8.ofNat ((runsF s 256 0).headD (0,0)).1)=true
  ·rw [if_pos h2];exact ⟨by simp,show (92:UInt8)≠41 by decide,show (92:UInt8)≠124 by decide,show quant 92=false by decide⟩
  ·rw [if_neg h2]
   generalize UInt8.ofNat ((runsF s 256 0).headD (0,0)).1=c at *
   have hl:isLit c=true:=by
    have h2':¬ oneOf specials c=true:=h2
    unfold isLit;simpa using h2'
   exact ⟨by simp,show c≠41 from lit_ne hl (by decide),show c≠124 from lit_ne hl (by decide),show quant c=false from lit_quant hl⟩
 ·rw [if_neg h1];exact ⟨by simp,show (91:UInt8)≠41 by decide,show (91:UInt8)≠124 by decide,show quant 91=false by decide⟩
def Piece (k:Node):Prop:=(∀ t:List UInt8,quant (t.headD 0)=false→rdP (txt k++t)=some (k,t))∧∀ t:List UInt8,txt k++t≠[]∧(txt k++t).headD 0≠41∧(txt k++t).headD 0≠124∧quant ((txt k++t).headD 0)=false
theorem rd_pieces:∀ (l:List Node) (A O:List Node) (t:List UInt8),(∀ k ∈ l,Piece k)→quant (t.headD 0)=false→rdO A O ((l.map txt).flatten++t)=rdO A (O++l) t
 | [],A,O,t,_,_=>by simp
 | k::l,A,O,t,h,hq=>by
  obtain ⟨h1,h2⟩:=h k (by simp)
  have hl:=fun q hq=>h q (List.mem_cons_of_mem k hq)
  have hn:quant (((l.map txt).flatten++t).headD 0)=false:=by
   cases l with
   | nil=>exact hq
   | cons q l =>
    rw [List.map_cons,List.flatten_cons,List.append_assoc]
    exact ((h q (by simp)).2 _).2.2.2
  rw [List.map_cons,List.flatten_cons,List.append_assoc,rdO_eq]
  obtain ⟨g1,g2,g3,_⟩:=h2 ((l.map txt).flatten++t)
  rw [if_neg (fun g=>g.elim g1 g2),if_neg g3,h1 _ hn]
  dsimp only
  rw [rd_pieces l A (O++[k]) t hl hq,List.append_assoc]
  rfl
def Ends (t:List UInt8):Prop:=t=[]∨t.headD 0=41
theorem ends_q {t:List UInt8} (h:Ends t):quant (t.headD 0)=false:=by
 rcases h with rfl | h
 ·rfl
 ·rw [h];decide
theorem rdO_end {A O:List Node} {t:List UInt8} (h:Ends t):rdO A O t=some (A,O,t):=by
 rw [rdO_eq,if_pos (show t=[]∨t.headD 0=41 from h)]
theorem rdO_bar {A O:List Node} {t:List UInt8}:rdO A O (124::t)=rdO (A++[catF O]) [] t:=by
 rw [rdO_eq,if_neg (by rintro (h | h);cases h;exact absurd h (show (124:UInt8)≠41 by decide)),if_pos (show (124::t).headD 0=124 from rfl)]
 rfl
def Expr (n:Node):Prop:=∀ t,Ends t→rdA (n.put++t)=some (n,t)
theorem expr_of_pieces {n:Node} (h:Shape n) (h5:n.kind≠5) (hp:∀ k ∈ pieces n,Piece k):Expr n:=fun t ht=>by
 rw [put_pieces h h5,rdA_eq,rd_pieces _ _ _ _ hp (ends_q ht),List.nil_append,rdO_end ht]
 dsimp only
 rw [List.nil_append,cat_pieces h h5]
 rfl
theorem rd_alts:∀ (l:List Node) (k:Node) (A:List Node) (t:List UInt8),(∀ q ∈ k::l,Shape q∧q.kind≠5∧∀ p ∈ pieces q,Piece p)→Ends t→∃ A' O',rdO A [] (joinB [124] ((k::l).map Node.put)++t)=some (A',O',t)∧A'++[catF O']=A++(k::l)
 | [],k,A,t,h,ht=>by
  obtain ⟨h1,h2,h3⟩:=h k (by simp)
  refine ⟨A,pieces k, ?_,by rw [cat_pieces h1 h2]⟩
  show rdO A [] (k.put++t)=_
  rw [put_pieces h1 h2,rd_pieces _ _ _ _ h3 (ends_q ht),List.nil_append,rdO_end ht]
 | q::l,k,A,t,h,ht=>by
  obtain ⟨h1,h2,h3⟩:=h k (by simp)
  obtain ⟨A',O',g1,g2⟩:=rd_alts l q (A++[k]) t (fun p hp=>h p (List.mem_cons_of_mem k hp)) ht
  refine ⟨A',O', ?_,by rw [g2,List.append_assoc];rfl⟩
  show rdO A [] (k.put++([124]++joinB [124] ((q::l).map Node.put))++t)=_
  rw [List.append_assoc,List.append_assoc,put_pieces h1 h2,rd_pieces _ _ _ ([124]++(joinB [124] ((q::l).map Node.put)++t)) h3 (by show quant 124=false;decide),List.nil_append,show [124]++(joinB [124] ((q::l).map Node.put)++t)=124::(joinB [124] ((q::l).map Node.put)++t) from rfl,rdO_bar,cat_pieces h1 h2]
  exact g1
theorem expr_alt {l:List Node} (h2:2≤l.length) (hk:∀ k ∈ l,k.kind≠5) (hp:∀ q ∈ l,Shape q∧∀ p ∈ pieces q,Piece p):Expr (.mk 5 W4.zero 0 0 l):=fun t ht=>by
 match l,h2 with
 | k::l,h2 =>
  obtain ⟨A',O',g1,g2⟩:=rd_alts l k [] t (fun q hq=>⟨(hp q hq).1,hk q hq,(hp q hq).2⟩) ht
  have e:(Node.mk 5 W4.zero 0 0 (k::l)).put=joinB [124] ((k::l).map Node.put):=by
   rw [put_eq]
   show joinB [124] (((k::l).map fun n=>(n.kind,n.put)).map (·.2))=_
   rw [List.map_map]
   rfl
  rw [e,rdA_eq,g1]
  dsimp only
  rw [g2,List.nil_append,endF_2 h2,flat_self hk]
theorem grp_piece {n:Node} (h:Expr n) (u:List UInt8):atomL rdA (brk n.put++u)=some (n,u):=by
 have h1:=h (41::u) (.inr rfl)
 show atomL rdA (40::((n.put++[41])++u))=_
 rw [List.append_assoc]
 unfold atomL
 dsimp only
 rw [if_pos rfl,show n.put++([41]++u)=n.put++41::u from rfl,h1]
 dsimp only
 rw [if_pos (show (41::u).headD 0=41 from rfl)]
 rfl
theorem times_no {n:Node} {t:List UInt8} (h:quant (t.headD 0)=false):timesL n t=some (n,t):=by
 simp only [quant,Bool.or_eq_false_iff,beq_eq_false_iff_ne] at h
 obtain ⟨h1,h2,h3,h4⟩:=h
 unfold timesL
 rw [if_neg h1,if_neg h2,if_neg h3,if_neg h4]
theorem brk_hd (p t:List UInt8):brk p++t≠[]∧(brk p++t).headD 0≠41∧(brk p++t).headD 0≠124∧quant ((brk p++t).headD 0)=false :=
 ⟨by simp [brk],show (40:UInt8)≠41 by decide,show (40:UInt8)≠124 by decide,show quant 40=false by decide⟩
theorem rep_atom {q:Node} (hs:Shape q) (he:Expr q) (u:List UInt8):atomL rdA (inRep (q.kind,q.put)++u)=some (q,u)∧∀ t,inRep (q.kind,q.put)++t≠[]∧(inRep (q.kind,q.put)++t).headD 0≠41∧(inRep (q.kind,q.put)++t).headD 0≠124∧quant ((inRep (q.kind,q.put)++t).headD 0)=false:=by
 have key:(q.kind=0∨q.kind=4∨q.kind=5∨q.kind=6)→inRep (q.kind,q.put)=brk q.put:=fun h=>by unfold inRep;rw [if_pos h]
 have rest:(q.kind=0∨q.kind=4∨q.kind=5∨q.kind=6)→_:=fun h=>And.intro (key h ▸ grp_piece he u:atomL rdA (inRep (q.kind,q.put)++u)=some (q,u)) (fun t=>(key h ▸ brk_hd q.put t:inRep (q.kind,q.put)++t≠[]∧(inRep (q.kind,q.put)++t).headD 0≠41∧(inRep (q.kind,q.put)++t).headD 0≠124∧quant ((inRep (q.kind,q.put)++t).headD 0)=false))
 cases hs with
 | empty=>exact rest (.inl rfl)
 | cat=>exact rest (.inr (.inl rfl))
 | alt=>exact rest (.inr (.inr (.inl rfl)))
 | rep=>exact rest (.inr (.inr (.inr rfl)))
 | one s h =>
  have e:inRep ((Node.mk 1 s 0 0 []).kind,(Node.mk 1 s 0 0 []).put)=putS s:=by
   rw [put_eq];simp [inRep,Node.kind,putV,Node.set]
  rw [e]
  exact ⟨atom_set h u,putS_hd h⟩
 | beg=>exact ⟨rfl,fun t=>⟨by simp [inRep,Node.kind,put_eq,putV],show (94:UInt8)≠41 by decide,show (94:UInt8)≠124 by decide,show quant 94=false by decide⟩⟩
 | fin=>exact ⟨rfl,fun t=>⟨by simp [inRep,Node.kind,put_eq,putV],show (36:UInt8)≠41 by decide,show (36:UInt8)≠124 by decide,show quant 36=false by decide⟩⟩
theorem Norm.shape' {d:Nat} {n:Node} (h:Norm d n):Shape n:=by cases d with | zero=>exact h.elim | succ d=>exact h.1
theorem expr_ok:∀ (d:Nat) (n:Node),Norm d n→Expr n∧(n.kind≠0→n.kind≠4→Piece n)
 | 0,_,h=>h.elim
 | d + 1,n,h=>by
  have hs:=h.1
  have ih:=fun k hk=>expr_ok d k (h.2 k hk)
  have self:n.kind≠0→n.kind≠4→n.kind≠5→Piece n→Expr n:=fun h0 h4 h5 hp=>expr_of_pieces hs h5 fun k hk=>by
   unfold pieces at hk
   rw [if_neg h0,if_neg h4] at hk
   have:k=n:=by simpa using hk
   rw [this];exact hp
  have leaf:∀ p:List UInt8,txt n=p→(∀ u,atomL rdA (p++u)=some (n,u))→(∀ t,p++t≠[]∧(p++t).headD 0≠41∧(p++t).headD 0≠124∧quant ((p++t).headD 0)=false)→Piece n:=fun p hp h1 h2=>by
   refine ⟨fun t ht => ?_,fun t=>by rw [hp];exact h2 t⟩
   unfold rdP pieceL
   rw [hp,h1]
   exact times_no ht
  cases hs with
  | empty=>exact ⟨expr_of_pieces .empty (by simp [Node.kind]) (fun k hk=>by cases hk),fun h0=>absurd rfl h0⟩
  | one s hz =>
   have e:txt (Node.mk 1 s 0 0 [])=putS s:=by unfold txt;rw [put_eq];simp [inCat,Node.kind,putV,Node.set]
   have hp:=leaf _ e (fun u=>atom_set hz u) (putS_hd hz)
   exact ⟨self (by simp [Node.kind]) (by simp [Node.kind]) (by simp [Node.kind]) hp,fun _ _=>hp⟩
  | beg =>
   have hp:=leaf [94] (by unfold txt;rw [put_eq];simp [inCat,Node.kind,putV]) (fun u=>rfl) (fun t=>⟨by simp,show (94:UInt8)≠41 by decide,show (94:UInt8)≠124 by decide,show quant 94=false by decide⟩)
   exact ⟨self (by simp [Node.kind]) (by simp [Node.kind]) (by simp [Node.kind]) hp,fun _ _=>hp⟩
  | fin =>
   have hp:=leaf [36] (by unfold txt;rw [put_eq];simp [inCat,Node.kind,putV]) (fun u=>rfl) (fun t=>⟨by simp,show (36:UInt8)≠41 by decide,show (36:UInt8)≠124 by decide,show quant 36=false by decide⟩)
   exact ⟨self (by simp [Node.kind]) (by simp [Node.kind]) (by simp [Node.kind]) hp,fun _ _=>hp⟩
  | cat l h2 hk=>exact ⟨expr_of_pieces (.cat l h2 hk) (by simp [Node.kind]) (fun k hk'=>(ih k hk').2 (hk k hk').1 (hk k hk').2),fun _ h4=>absurd rfl h4⟩
  | alt l h2 hk =>
   have he:=expr_alt h2 hk fun q hq=>⟨(h.2 q hq).shape',fun p hp=>by
    have hq':=ih q hq
    unfold pieces at hp
    split at hp
    ·cases hp
    ·rename_i h0
     split at hp
     ·rename_i h4
      have hq2:=h.2 q hq
      cases d with
      | zero=>exact hq2.elim
      | succ d =>
       have hsq:=hq2.1
       cases hsq with
       | cat l' _ hkk=>exact (expr_ok (d + 1) p ((hq2.2 p hp).mono (by omega))).2 (hkk p hp).1 (hkk p hp).2
       | _=>simp [Node.kind] at h4
     ·rename_i h4
      have:p=q:=by simpa using hp
      rw [this];exact hq'.2 h0 h4⟩
   refine ⟨he,fun _ _=>leaf _ (show txt (Node.mk 5 W4.zero 0 0 l)=brk (Node.mk 5 W4.zero 0 0 l).put from rfl) (grp_piece he) (brk_hd _)⟩
  | rep a b q g0 g1 g2 =>
   have hq:=ih q (by simp [Node.kids])
   have hsq:Shape q:=(h.2 q (by simp [Node.kids])).shape'
   have e:txt (Node.mk 6 W4.zero a b [q])=inRep (q.kind,q.put)++timesT a b:=by unfold txt;rw [put_eq];simp [inCat,Node.kind,putV,Node.kids,Node.mn,Node.mx]
   have hp:Piece (Node.mk 6 W4.zero a b [q]):=by
    refine ⟨fun t ht => ?_,fun t=>by rw [e,List.append_assoc];exact (rep_atom hsq hq.1 []).2 _⟩
    unfold rdP pieceL
    rw [e,List.append_assoc,(rep_atom hsq hq.1 _).1]
    exact times_rd g0 g1 g2
   exact ⟨self (by simp [Node.kind]) (by simp [Node.kind]) (by simp [Node.kind]) hp,fun _ _=>hp⟩
abbrev xsSt (l P:AV) (s:List UInt8) (i:Nat):List TV:=[.v l,J,J, .v P, .v (.str s), .v (AI i)]++List.replicate 28 J
abbrev xsEnd (s:List UInt8):List TV:=[J,J,J,J, .v (.str s)]++List.replicate 29 J
theorem xcat {s t:List UInt8} (hs:s.length < 1000) (ht:t.length < 100):s.length + t.length≤9223372036854775807:=by omega
theorem re_a {m:Int} {fl i j:Nat} {hp:List Blk} {l P:AV} {bs s t:List UInt8} {vs:List AV} {c:UInt8} (hl:IsSl 1 l (bsV bs)) (hP:IsSl 1 P vs) (hc:(bsV bs)[i]?=some (.int .u8 (c.toNat:Int))) (hi:i < bs.length) (hi2:i < 16) (hs:s.length < 1000) (ht:t.length < 100) (hk:(c.toNat:Int) < 200) (hj:Int.tmod (Int.tmod (c.toNat:Int) 22) 32=(j:Int)) (hj2:j < 32) (hv:vs[j]?=some (.str t)):LoopS (cfg m) fl 10 (bodyAt (cfg m) 10 4) 4 ⟨xsSt l P s i,hp⟩ ⟨xsSt l P (s++t) (i + 1),hp⟩:=by
 exact loopStepS (St.mk [TV.v l,J,J,TV.v P,TV.v (AV.str (s++t)),TV.v (AI ((↑i:Int) + 1)),J,J,J,J,J,J,J,J,J,J,J,J,J,J,J,J,J,J,J,J,J,J,J,J,J,J,J,J] hp) [.m 4 2 (len_sl (C:=cfg m) (t:=22) (ts':=[]) (fl:=fl) (ar:=false) (hp:=hp) hl (by kernel_rfl)), .b 4 3 (decide_eq_true ((show (↑i:Int) < (↑(bsV bs).length:Int) from (by have:=UInt8.toNat_lt (c);simp only [setAt_length,List.length_append,List.length_cons,List.length_nil,List.length_map] at *;omega)))), .b 4 6 (decide_eq_true ((show (↑i:Int) < 16 from (by omega)))), .a 6 2 (indexAddr_sl (C:=cfg m) (t:=22) (n:=(↑i:Int)) hl (by kernel_rfl) (by omega) hc), .b 7 1 (decide_eq_true (hk)), .w 9 3 IntKind.u8 ((↑j:Int)) hj, .a 9 4 (indexAddr_sl (C:=cfg m) (t:=45) (n:=(↑j:Int)) hP (by kernel_rfl) (by omega) hv), .v 9 6 (strOp_add (x:=s) (y:=t) (xcat hs ht)), .w 5 1 IntKind.i64 ((↑i:Int) + 1) (wrap_i64' (by omega))] (by kernel_rfl) rfl
theorem re_b {m:Int} {fl i j:Nat} {hp:List Blk} {l P:AV} {bs s t:List UInt8} {vs:List AV} {c:UInt8} (hl:IsSl 1 l (bsV bs)) (hP:IsSl 1 P vs) (hc:(bsV bs)[i]?=some (.int .u8 (c.toNat:Int))) (hi:i < bs.length) (hi2:i < 16) (hs:s.length < 1000) (ht:t.length < 100) (hk:¬ (c.toNat:Int) < 200) (hj:Int.tmod (c.toNat:Int) 32=(j:Int)) (hj2:j < 32) (hv:vs[j]?=some (.str t)):LoopS (cfg m) fl 10 (bodyAt (cfg m) 10 4) 4 ⟨xsSt l P s i,hp⟩ ⟨xsSt l P (s++t) (i + 1),hp⟩:=by
 exact loopStepS (St.mk [TV.v l,J,J,TV.v P,TV.v (AV.str (s++t)),TV.v (AI ((↑i:Int) + 1)),J,J,J,J,J,J,J,J,J,J,J,J,J,J,J,J,J,J,J,J,J,J,J,J,J,J,J,J] hp) [.m 4 2 (len_sl (C:=cfg m) (t:=22) (ts':=[]) (fl:=fl) (ar:=false) (hp:=hp) hl (by kernel_rfl)), .b 4 3 (decide_eq_true ((show (↑i:Int) < (↑(bsV bs).length:Int) from (by have:=UInt8.toNat_lt (c);simp only [setAt_length,List.length_append,List.length_cons,List.length_nil,List.length_map] at *;omega)))), .b 4 6 (decide_eq_true ((show (↑i:Int) < 16 from (by omega)))), .a 6 2 (indexAddr_sl (C:=cfg m) (t:=22) (n:=(↑i:Int)) hl (by kernel_rfl) (by omega) hc), .b 7 1 (decide_eq_false (hk)), .w 9 3 IntKind.u8 ((↑j:Int)) hj, .a 9 4 (indexAddr_sl (C:=cfg m) (t:=45) (n:=(↑j:Int)) hP (by kernel_rfl) (by omega) hv), .v 9 6 (strOp_add (x:=s) (y:=t) (xcat hs ht)), .w 5 1 IntKind.i64 ((↑i:Int) + 1) (wrap_i64' (by omega))] (by kernel_rfl) rfl
theorem re_x {m:Int} {fl i:Nat} {hp:List Blk} {l P:AV} {bs s:List UInt8} (hl:IsSl 1 l (bsV bs)) (hi:bs.length≤i∨16≤i) (hi2:i≤16):LoopI (cfg m) fl 10 (bodyAt (cfg m) 10 4) 4 ⟨xsSt l P s i,hp⟩ (.exit 0) ⟨xsEnd s,hp⟩:=by
 by_cases h1:(↑i:Int) < (↑(bsV bs).length:Int)
 ·exact loopEndC (.exit 0) (St.mk ([J,J,J,J,TV.v (AV.str s)]++Jn 29) hp) [.m 4 2 (len_sl (C:=cfg m) (t:=22) (ts':=[]) (fl:=fl) (ar:=false) (hp:=hp) hl (by kernel_rfl)), .b 4 3 (decide_eq_true h1), .b 4 6 (decide_eq_false ((show ¬(↑i:Int) < 16 from (by simp only [setAt_length,List.length_append,List.length_cons,List.length_nil,List.length_map] at *;omega))))] (by kernel_rfl) (fun h=>by cases h) rfl
 ·exact loopEndC (.exit 0) (St.mk ([J,J,J,J,TV.v (AV.str s)]++Jn 29) hp) [.m 4 2 (len_sl (C:=cfg m) (t:=22) (ts':=[]) (fl:=fl) (ar:=false) (hp:=hp) hl (by kernel_rfl)), .b 4 3 (decide_eq_false h1)] (by kernel_rfl) (fun h=>by cases h) rfl
abbrev partsL:List (List UInt8):=[[97],[98],[99],[46],[124],[42],[43],[63],[40],[41],[123,50,125],[123,49,44,51,125],[123,50,44,125],[94],[36],[91,97,45,99,93],[91,94,97,93],[92,100],[92,119],[92,46],[97,98],[40,97,124,98,41],[91],[93],[123],[92],[45],[97,42],[40,97,98,41,43],[91,92,93,45,93],[123,51,44,50,125],[123,50,49,125]]
theorem re_ok {m:Int} {fl:Nat} {hp:List Blk} {l:AV} {s:List UInt8} (hlp:LoopI (cfg m) hp.length 10 (bodyAt (cfg m) 10 4) 4 ⟨xsSt l (.lit 1 .exact (stV partsL)) [] 0,hp⟩ (.exit 0) ⟨xsEnd s,hp⟩):evI (cfg m) fl 10 [l] hp=some (.str s,hp):=by
 exact evX (AV.str s) (hp) [.l 4 hlp] (by kernel_rfl) (tlP (by kernel_rfl) rfl (shutT (v:=AV.str s) (v':=AV.str s) (by kernel_rfl))) rfl
def partIx (c:UInt8):Nat:=if c.toNat < 200 then c.toNat % 22 % 32 else c.toNat % 32
def partOf (c:UInt8):List UInt8:=partsL.getD (partIx c) []
def rexesF (bs:List UInt8):List UInt8:=((bs.take 16).map partOf).flatten
theorem partIx_lt (c:UInt8):partIx c < 32:=by unfold partIx;split <;> omega
theorem parts_get (j:Nat) (h:j < 32):(stV partsL)[j]?=some (.str (partsL.getD j [])):=by
 have hl:partsL.length=32:=rfl
 rw [List.getElem?_map,List.getD_eq_getElem?_getD,List.getElem?_eq_getElem (by omega)]
 rfl
theorem parts_len:∀ j,j < 32→(partsL.getD j []).length < 6:=by decide
theorem partOf_len (c:UInt8):(partOf c).length < 6:=parts_len _ (partIx_lt c)
theorem flat_len6:∀ (l:List UInt8),((l.map partOf).flatten).length≤5 * l.length
 | []=>by simp
 | c::l=>by
  have h1:=flat_len6 l
  have h2:=partOf_len c
  simp only [List.map_cons,List.flatten_cons,List.length_append,List.length_cons]
  omega
theorem rexes_len (bs:List UInt8):(rexesF bs).length≤80:=by
 have h:=flat_len6 (bs.take 16)
 have h2:(bs.take 16).length≤16:=by rw [List.length_take];omega
 unfold rexesF
 omega
theorem xs_loop {m:Int} {fl:Nat} {hp:List Blk} {l:AV} {bs:List UInt8} (hl:IsSl 1 l (bsV bs)):∀ (r:List UInt8) (i:Nat) (s:List UInt8),(bs.take 16).drop i=r→i≤16→s.length + 5 * r.length≤80→LoopI (cfg m) fl 10 (bodyAt (cfg m) 10 4) 4 ⟨xsSt l (.lit 1 .exact (stV partsL)) s i,hp⟩ (.exit 0) ⟨xsEnd (s++(r.map partOf).flatten),hp⟩
 | [],i,s,hd,hi,hs=>by
  have h1:(bs.take 16).length≤i:=by simpa using hd
  rw [List.length_take] at h1
  rw [List.map_nil,List.flatten_nil,List.append_nil]
  exact re_x hl (by omega) hi
 | c::r,i,s,hd,hi,hs=>by
  have hq:(bs.take 16)[i]?=some c:=by have:=congrArg (·[0]?) hd;simpa using this
  have hlt:=(List.getElem?_eq_some_iff.1 hq).1
  rw [List.length_take] at hlt
  have hq2:bs[i]?=some c:=by rw [List.getElem?_take_of_lt (by omega)] at hq;exact hq
  have hd':(bs.take 16).drop (i + 1)=r:=by rw [← List.drop_drop,hd];rfl
  have hc:(bsV bs)[i]?=some (.int .u8 (c.toNat:Int)):=by rw [List.getElem?_map,hq2];rfl
  have hlen:=partOf_len c
  have hv:=parts_get (partIx c) (partIx_lt c)
  simp only [List.length_cons] at hs
  have ih:=xs_loop (m:=m) (fl:=fl) (hp:=hp) hl r (i + 1) (s++partOf c) hd' (by omega) (by rw [List.length_append];omega)
  rw [List.map_cons,List.flatten_cons,← List.append_assoc]
  by_cases hk:c.toNat < 200
  ·refine re_a (j:=partIx c) (t:=partOf c) hl (.lit _ _ _) hc (by omega) (by omega) (by omega) (by omega) (by omega) ?_ (partIx_lt c) hv _ _ ih
   unfold partIx
   rw [if_pos hk]
   rfl
  ·refine re_b (j:=partIx c) (t:=partOf c) hl (.lit _ _ _) hc (by omega) (by omega) (by omega) (by omega) (by omega) ?_ (partIx_lt c) hv _ _ ih
   unfold partIx
   rw [if_neg hk]
   rfl
theorem rexes_ok {m:Int} {fl:Nat} {hp:List Blk} {l:AV} {bs:List UInt8} (hl:IsSl 1 l (bsV bs)):evI (cfg m) fl 10 [l] hp=some (.str (rexesF bs),hp):=by
 have h16:(bs.take 16).length≤16:=by rw [List.length_take];omega
 exact re_ok (xs_loop (m:=m) (fl:=hp.length) (hp:=hp) hl (bs.take 16) 0 [] rfl (by omega) (by simp only [List.length_nil];omega))
section
variable {s:List UInt8}
theorem atom_le {rec:Nat→Int→Rd} {p:Nat} {bad:Int} (hp:p < s.length) (hb:bad≤s.length) (hr:∀ b:Int,b≤s.length→(rec (p + 1) b).2.2≤s.length):(atomF rec s p bad).2.2≤s.length:=by
 have h1:=hr bad hb
 unfold atomF
 dsimp only
 repeat' split
 all_goals dsimp only
 all_goals first | omega | (split <;> omega)
theorem times_le {n:Node} {q:Nat} {b:Int} (hq:q≤s.length) (hb:b≤s.length):(pieceG s n q b).2.2≤s.length:=by
 unfold pieceG
 dsimp only
 repeat' split
 all_goals dsimp only
 all_goals first | omega | (split <;> omega)
theorem piece_le {rec:Nat→Int→Rd} {p:Nat} {bad:Int} (hp:p < s.length) (hb:bad≤s.length) (hr:∀ b:Int,b≤s.length→(rec (p + 1) b).2.2≤s.length) (hr1:∀ b,Btw s (p + 1) (rec (p + 1) b).2.1):(pieceF rec s p bad).2.2≤s.length :=
 times_le (atomF_b (bad:=bad) hp hr1).2 (atom_le hp hb hr)
theorem loop_le {rec:Nat→Int→Rd}:∀ (f p:Nat) (bad:Int) (A O:List Node),bad≤s.length→p≤s.length→(∀ (q:Nat) (b:Int),p < q→q≤s.length→b≤s.length→(rec q b).2.2≤s.length)→(∀ q b,p < q→q≤s.length→Btw s q (rec q b).2.1)→(loopF rec s f p bad A O).2.2.2≤s.length
 | 0,p,bad,A,O,h,_,_,_=>h
 | f + 1,p,bad,A,O,h,hp,hr,hr1=>by
  unfold loopF
  split
  ·exact h
  ·rename_i h1
   have h1':bad < 0∧p < s.length:=Decidable.byContradiction fun g=>h1 g
   split
   ·exact h
   ·split
    ·rename_i h3
     have e:eatP s p bad 124=p + 1:=eatP_t h3
     rw [e]
     exact loop_le f _ _ _ _ h h1'.2 (fun q b h4=>hr q b (by omega)) (fun q b h4=>hr1 q b (by omega))
    ·rename_i h3
     have e:eatP s p bad 124=p:=eatP_f h3
     dsimp only
     rw [e]
     have hb:=pieceF_b (bad:=bad) (rec:=rec) h1'.2 (fun b=>hr1 (p + 1) b (by omega) h1'.2)
     exact loop_le f _ _ _ _ (piece_le h1'.2 h (fun b=>hr (p + 1) b (by omega) h1'.2) (fun b=>hr1 (p + 1) b (by omega) h1'.2)) hb.2 (fun q b h4=>hr q b (by have:=hb.1;omega)) (fun q b h4=>hr1 q b (by have:=hb.1;omega))
theorem alt_le:∀ (f p:Nat) (bad:Int),bad≤s.length→p≤s.length→(altF s f p bad).2.2≤s.length
 | 0,p,bad,h,_=>h
 | f + 1,p,bad,h,hp=>by
  unfold altF
  exact loop_le _ _ _ _ _ h hp (fun q b _ h2 h3=>alt_le f q b h3 h2) (fun q b _ h2=>(altF_all f q b h2).1)
theorem parse_tells (t:List UInt8):((∃ n,parseM t=(n,t.length,0)∧t.length≤256∧Norm 772 n∧n.lw≤257∧n.size≤200∧rdA t=some (n,[])))∨(∃ q e,parseM t=(.empty,q,e)∧e≠0∧q≤t.length):=by
 by_cases hl:256 < t.length
 ·exact .inr ⟨256,4,by unfold parseM;rw [if_pos hl],by decide,by omega⟩
 ·obtain ⟨h1,h2,h3⟩:=parse_L (t:=t) (by omega)
  by_cases hn:∃ n,rdA t=some (n,[])
  ·obtain ⟨n,hn⟩:=hn
   by_cases hz:n.size≤200
   ·refine .inl ⟨n,h1 n hn hz,by omega, ?_, ?_,hz,hn⟩
    ·obtain ⟨d,hd⟩:=rdA_norm _ _ _ hn
     have ha:=altF_all (s:=t) 257 0 (-1) (by omega)
     have hL:=alt_L (s:=t) 257 0 (-1) (by omega) (by omega) (by omega)
     rw [List.drop_zero,alt_fuel 257 (t.length + 1) t (by omega) (by omega)] at hL
     rw [show altL (t.length + 1) t=some (n,[]) from hn] at hL
     rw [hL.1] at ha
     exact hd.of_dep ha.2.2
    ·have ha:=altF_all (s:=t) 257 0 (-1) (by omega)
     have hL:=alt_L (s:=t) 257 0 (-1) (by omega) (by omega) (by omega)
     rw [List.drop_zero,alt_fuel 257 (t.length + 1) t (by omega) (by omega)] at hL
     rw [show altL (t.length + 1) t=some (n,[]) from hn] at hL
     rw [hL.1] at ha
     have:=ha.1.2
     have:=ha.2.1
     omega
   ·exact .inr ⟨t.length,4,h2 n hn (by omega),by decide,by omega⟩
  ·obtain ⟨g1,g2⟩:=h3 fun n h=>hn ⟨n,h⟩
   refine .inr ⟨(parseM t).2.1,2,by rw [← g1,← g2],by decide, ?_⟩
   have hb:=alt_le (s:=t) 257 0 (-1) (by omega) (by omega)
   have ha:=(altF_all (s:=t) 257 0 (-1) (by omega)).1.2
   unfold parseM
   rw [if_neg hl]
   split
   ·dsimp only;omega
   split
   ·dsimp only;exact ha
   split
   ·exact Nat.le_refl _
   ·exact Nat.le_refl _
end
def oneB (c:UInt8):Node := .one (W4.zero.with c c)
theorem put_oneB (c:UInt8):(oneB c).put=escT c spS:=by
 have hd:W4.zero.with c c≠dotS:=fun e=>by
  have h0:=single_has c 0 (by omega)
  have h1:=single_has c 1 (by omega)
  rw [e] at h0 h1
  rw [show dotS.has 0=true by decide +kernel] at h0
  rw [show dotS.has 1=true by decide +kernel] at h1
  have a:=of_decide_eq_true h0.symm
  have b:=of_decide_eq_true h1.symm
  omega
 obtain ⟨e,l,hr⟩:=runs_single c
 rw [put_eq]
 show putS (W4.zero.with c c)=_
 unfold putS
 rw [if_neg hd,cnt_single,if_pos (show ((1:Nat):Int)=1 from rfl),hr]
 show escT (UInt8.ofNat c.toNat) spS=_
 rw [UInt8.ofNat_toNat]
theorem oneB_norm (c:UInt8):NormE (oneB c):=one_norm (with_ne (Nat.le_refl _))
theorem sumC_ones:∀ (n:Nat) (a:Int),0≤a→a + n≤1000000→sumC (List.replicate n 1) a=a + n
 | 0,a,_,_=>by simp [sumC]
 | n + 1,a,h0,h1=>by
  rw [List.replicate_succ]
  unfold sumC
  rw [sumC_ones n _ (by omega) (by omega)]
  omega
def plainN (l:List UInt8):Node:=catF (l.map oneB)
theorem plain_cases (l:List UInt8):(l=[]∧plainN l = .mk 0 W4.zero 0 0 [])∨(∃ c,l=[c]∧plainN l=oneB c)∨(2≤l.length∧plainN l = .mk 4 W4.zero 0 0 (l.map oneB)):=by
 have hk:∀ n ∈ l.map oneB,n.kind=1:=fun n hn=>by
  obtain ⟨c,_,rfl⟩:=List.mem_map.1 hn
  rfl
 unfold plainN catF
 rw [flat_self fun n hn=>by rw [hk n hn];decide,full_self fun n hn=>by rw [hk n hn];decide]
 match l with
 | []=>exact .inl ⟨rfl,rfl⟩
 | [c]=>exact .inr (.inl ⟨c,rfl,rfl⟩)
 | a::b::l=>exact .inr (.inr ⟨by simp,rfl⟩)
theorem plain_norm (l:List UInt8):NormE (plainN l):=cat_norm fun n hn=>by
 obtain ⟨c,_,rfl⟩:=List.mem_map.1 hn
 exact oneB_norm c
theorem plain_put (l:List UInt8):(plainN l).put=(l.map fun c=>escT c spS).flatten:=by
 rcases plain_cases l with ⟨rfl,h⟩ | ⟨c,rfl,h⟩ | ⟨_,h⟩
 ·rw [h];rfl
 ·rw [h,put_oneB];simp
 ·rw [h,put_eq]
  show joinB [] (((l.map oneB).map fun n=>(n.kind,n.put)).map inCat)=_
  rw [joinB_nil,List.map_map,List.map_map]
  congr 1
  apply List.map_congr_left
  intro c _
  show inCat (1,(oneB c).put)=_
  rw [put_oneB]
  rfl
theorem oneB_size (c:UInt8):(oneB c).size=1:=by rw [Node.size_eq];rfl
theorem plain_size (l:List UInt8) (hl:l.length≤1000000):(plainN l).size=l.length:=by
 rcases plain_cases l with ⟨rfl,h⟩ | ⟨c,rfl,h⟩ | ⟨_,h⟩
 ·rw [h];rfl
 ·rw [h,oneB_size];rfl
 ·rw [h,Node.size_eq]
  show sumC ((l.map oneB).map Node.size) 0=_
  have:(l.map oneB).map Node.size=List.replicate l.length 1:=by
   rw [List.map_map,List.eq_replicate_iff]
   refine ⟨by simp,fun x hx => ?_⟩
   obtain ⟨c,_,rfl⟩:=List.mem_map.1 hx
   exact oneB_size c
  rw [this,sumC_ones _ _ (by omega) (by omega)]
  omega
theorem plain_lits (l:List UInt8) (h:∀ c ∈ l,isLit c=true):(l.map fun c=>escT c spS).flatten=l:=by
 induction l with
 | nil=>rfl
 | cons c l ih =>
  have hc:¬ oneOf spS c=true:=sp_of (h c (by simp))
  rw [List.map_cons,List.flatten_cons,ih fun d hd=>h d (by simp [hd])]
  unfold escT
  rw [if_neg hc]
  rfl
theorem put_parse {n:Node} (h:NormE n) (hz:n.size≤200) (hl:n.put.length≤256):parseM n.put=(n,n.put.length,0):=by
 obtain ⟨d,hd⟩:=h
 have he:=(expr_ok d n hd).1 [] (.inl rfl)
 rw [List.append_nil] at he
 exact (parse_L (t:=n.put) hl).1 n he hz
theorem plain_parse {l:List UInt8} (hl:l.length≤100):parseM ((l.map fun c=>escT c spS).flatten)=(plainN l,((l.map fun c=>escT c spS).flatten).length,0):=by
 have hlen:((l.map fun c=>escT c spS).flatten).length≤2 * l.length:=by
  clear hl
  induction l with
  | nil=>simp
  | cons c l ih =>
   have:=es_len (b:=c) (l:=spS)
   simp only [List.map_cons,List.flatten_cons,List.length_append,List.length_cons] at *
   omega
 have h:=put_parse (plain_norm l) (by rw [plain_size l (by omega)];omega) (by rw [plain_put];omega)
 rw [plain_put] at h
 exact h
def Fits (r u:List UInt8):Prop:=r≠[]∨u.headD 0=41
theorem hd_app {r u:List UInt8} (h:r≠[]):(r++u).headD 0=r.headD 0:=by
 cases r with
 | nil=>exact absurd rfl h
 | cons c r=>rfl
theorem tail_app {r u:List UInt8} (h:r≠[]):(r++u).tail=r.tail++u:=by
 cases r with
 | nil=>exact absurd rfl h
 | cons c r=>rfl
theorem ne_of_hd {r:List UInt8} {c:UInt8} (hc:c≠0) (h:r.headD 0=c):r≠[]:=fun e=>by
 rw [e] at h;exact hc h.symm
theorem esc_ext {t:List UInt8} {x:W4} {r:List UInt8} (h:escL t=some (x,r)) (u:List UInt8):escL (t++u)=some (x,r++u):=by
 cases t with
 | nil=>cases h
 | cons b t =>
  unfold escL at h
  dsimp only at h
  show (if escS b=W4.zero then none else some (escS b,t++u))=_
  split at h
  ·cases h
  ·rename_i hz;cases h;rw [if_neg hz]
theorem mem_ext {t:List UInt8} {x:W4} {r:List UInt8} (h:memL t=some (x,r)) (u:List UInt8):memL (t++u)=some (x,r++u):=by
 cases t with
 | nil=>cases h
 | cons b t =>
  unfold memL at h
  dsimp only at h
  show (if b=92 then escL (t++u) else if oneOf inClass b=true then none else some (W4.zero.with b b,t++u))=_
  split at h
  ·rename_i hb;rw [if_pos hb];exact esc_ext h u
  ·rename_i hb
   rw [if_neg hb]
   split at h
   ·cases h
   ·rename_i hc;cases h;rw [if_neg hc]
theorem item_ext {t:List UInt8} {x:W4} {r:List UInt8} (h:itemL t=some (x,r)) {u:List UInt8} (hu:Fits r u):itemL (t++u)=some (x,r++u):=by
 unfold itemL at h ⊢
 cases hm:memL t with
 | none=>rw [hm] at h;cases h
 | some a =>
  obtain ⟨a,t1⟩:=a
  rw [hm] at h
  rw [mem_ext hm u]
  cases t1 with
  | nil =>
   cases h
   have h41:u.headD 0=41:=hu.resolve_left (fun g=>g rfl)
   rw [List.nil_append]
   cases u with
   | nil=>rfl
   | cons c u =>
    have hc:c=41:=h41
    subst hc
    rfl
  | cons c t1 =>
   dsimp only [List.cons_append] at h ⊢
   split at h
   ·rename_i hc
    rw [if_pos hc]
    cases hm2:memL t1 with
    | none=>rw [hm2] at h;cases h
    | some b =>
     obtain ⟨b,t2⟩:=b
     rw [hm2] at h
     rw [mem_ext hm2 u]
     dsimp only at h ⊢
     split at h
     ·rename_i hk;cases h;rw [if_pos hk]
     ·cases h
   ·rename_i hc;cases h;rw [if_neg hc];rfl
theorem cls_ext:∀ {f:Nat} {acc:W4} {first:Bool} {t:List UInt8} {x:W4} {r:List UInt8},clsL f acc first t=some (x,r)→∀ u,clsL f acc first (t++u)=some (x,r++u)
 | 0,_,_,_,_,_,h,_=>by simp [clsL] at h
 | f + 1,acc,first,t,x,r,h,u=>by
  unfold clsL at h ⊢
  have hne:t≠[]:=fun e=>by
   rw [e] at h
   simp [itemL,memL] at h
  rw [hd_app hne]
  split at h
  ·rename_i hc;cases h;rw [if_pos hc,tail_app hne]
  ·rename_i hc
   rw [if_neg hc]
   cases hi:itemL t with
   | none=>rw [hi] at h;cases h
   | some a =>
    obtain ⟨a,t1⟩:=a
    rw [hi] at h
    have h1:t1≠[]:=fun e=>by
     rw [e] at h
     dsimp only at h
     cases f with
     | zero=>simp [clsL] at h
     | succ f=>simp [clsL,itemL,memL] at h
    rw [item_ext hi (.inl h1)]
    exact cls_ext h u
theorem class_ext {t:List UInt8} {x:W4} {r:List UInt8} (h:classL t=some (x,r)) (u:List UInt8):classL (t++u)=some (x,r++u):=by
 have hne:t≠[]:=fun e=>by
  rw [e] at h
  simp [classL,clsL,itemL,memL] at h
 unfold classL at h ⊢
 rw [hd_app hne]
 have e:(if t.headD 0=94 then (t++u).tail else t++u)=(if t.headD 0=94 then t.tail else t)++u:=by
  split
  ·exact tail_app hne
  ·rfl
 rw [e]
 cases hc:clsL (t.length + 1) W4.zero true (if t.headD 0=94 then t.tail else t) with
 | none=>rw [hc] at h;cases h
 | some a =>
  obtain ⟨a,t1⟩:=a
  rw [hc] at h
  have hlen:(if t.headD 0=94 then t.tail else t).length≤t.length:=by split <;> simp
  have h3:clsL ((t++u).length + 1) W4.zero true ((if t.headD 0=94 then t.tail else t)++u)=some (a,t1++u):=by
   have h2:=cls_ext hc u
   have mono:∀ (f g:Nat) (acc:W4) (first:Bool) (t:List UInt8) (y:W4 × List UInt8),f≤g→clsL f acc first t=some y→clsL g acc first t=some y:=by
    intro f
    induction f with
    | zero=>intro g acc first t y _ h;simp [clsL] at h
    | succ f ih =>
     intro g acc first t y hg h
     obtain ⟨g,rfl⟩:∃ k,g=k + 1:=⟨g - 1,by omega⟩
     unfold clsL at h ⊢
     split at h
     ·rename_i hc;rw [if_pos hc];exact h
     ·rename_i hc
      rw [if_neg hc]
      split at h
      ·cases h
      ·exact ih g _ _ _ _ (by omega) h
   exact mono _ _ _ _ _ _ (by simp) h2
  rw [h3]
  dsimp only at h ⊢
  split at h
  ·rename_i h94
   rw [if_pos h94]
   split at h
   ·cases h
   ·rename_i hz;cases h;rw [if_neg hz]
  ·rename_i h94
   rw [if_neg h94]
   split at h
   ·cases h
   ·rename_i hz;cases h;rw [if_neg hz]
theorem isDig_41:isDig 41=false:=by decide
theorem num_ext {t:List UInt8} {v:Int} {r:List UInt8} (h:numL t=some (v,r)) {u:List UInt8} (hu:Fits r u):numL (t++u)=some (v,r++u):=by
 have hr:r=t.dropWhile isDig:=by
  unfold numL at h
  split at h
  ·cases h;rfl
  ·cases h
 have e:t=t.takeWhile isDig++t.dropWhile isDig:=(List.takeWhile_append_dropWhile).symm
 have hd:isDig ((t.dropWhile isDig++u).headD 0)=false:=by
  cases hq:t.dropWhile isDig with
  | nil =>
   have:u.headD 0=41:=hu.resolve_left (fun g=>g (by rw [hr,hq]))
   rw [List.nil_append,this];exact isDig_41
  | cons c l =>
   have hc:¬ isDig c=true:=by
    have h1:=@List.head_dropWhile_not _ isDig t (by rw [hq];simp)
    simpa [hq] using h1
   show isDig c=false
   simpa using hc
 have hall:(t.takeWhile isDig).all isDig=true:=List.all_takeWhile
 obtain ⟨w1,w2⟩:=while_digs (t:=t.dropWhile isDig++u) hall hd
 unfold numL at h ⊢
 have e2:t++u=t.takeWhile isDig++(t.dropWhile isDig++u):=by rw [← List.append_assoc,← e]
 rw [e2,w1,w2]
 split at h
 ·rename_i hc;cases h;rw [if_pos hc]
 ·cases h
theorem brc_ext {t:List UInt8} {a b:Int} {r:List UInt8} (h:brcL t=some (a,b,r)) (u:List UInt8):brcL (t++u)=some (a,b,r++u):=by
 unfold brcL at h ⊢
 cases hm:numL t with
 | none=>rw [hm] at h;cases h
 | some x =>
  obtain ⟨v,t1⟩:=x
  rw [hm] at h
  have hne:t1≠[]:=fun e=>by
   rw [e] at h
   simp at h
  rw [num_ext hm (.inl hne)]
  dsimp only at h ⊢
  rw [hd_app hne,tail_app hne]
  split at h
  ·rename_i hc;cases h;rw [if_pos hc]
  ·rename_i hc
   rw [if_neg hc]
   split at h
   ·rename_i hc2
    rw [if_pos hc2]
    have hne2:t1.tail≠[]:=fun e=>by
     rw [e] at h
     rw [show numL []=none by decide +kernel] at h
     simp at h
    rw [hd_app hne2,tail_app hne2]
    split at h
    ·rename_i hc3;cases h;rw [if_pos hc3]
    ·rename_i hc3
     rw [if_neg hc3]
     cases hm2:numL t1.tail with
     | none=>rw [hm2] at h;cases h
     | some y =>
      obtain ⟨v2,t2⟩:=y
      rw [hm2] at h
      dsimp only at h
      split at h
      ·rename_i hc4
       cases h
       have hne3:t2≠[]:=ne_of_hd (by decide) hc4.1
       rw [num_ext hm2 (.inl hne3)]
       dsimp only
       rw [hd_app hne3,tail_app hne3,if_pos hc4]
      ·cases h
   ·cases h
def Ext (rec:List UInt8→RL) (N:Nat):Prop:=∀ t n r,t.length < N→rec t=some (n,r)→∀ u,Fits r u→rec (t++u)=some (n,r++u)
theorem atom_ext {t:List UInt8} {n:Node} {r:List UInt8} (hx:Ext rdA t.length) (h:atomL rdA t=some (n,r)) (u:List UInt8):atomL rdA (t++u)=some (n,r++u):=by
 cases t with
 | nil=>cases h
 | cons b t =>
  have hx':Ext rdA (t.length + 1):=hx
  unfold atomL at h
  rw [List.cons_append]
  unfold atomL
  dsimp only at h ⊢
  split at h
  ·rename_i hb
   rw [if_pos hb]
   cases hm:rdA t with
   | none=>rw [hm] at h;cases h
   | some x =>
    obtain ⟨n',t1⟩:=x
    rw [hm] at h
    dsimp only at h
    split at h
    ·rename_i hc
     cases h
     have hne:t1≠[]:=ne_of_hd (by decide) hc
     rw [hx' t _ t1 (by omega) hm u (.inl hne)]
     dsimp only
     rw [hd_app hne,if_pos hc,tail_app hne]
    ·cases h
  rename_i h0;rw [if_neg h0]
  split at h
  ·rename_i hb;cases h;rw [if_pos hb]
  rename_i h1;rw [if_neg h1]
  split at h
  ·rename_i hb;cases h;rw [if_pos hb]
  rename_i h2;rw [if_neg h2]
  split at h
  ·rename_i hb;cases h;rw [if_pos hb]
  rename_i h3;rw [if_neg h3]
  split at h
  ·rename_i hb
   rw [if_pos hb]
   cases hm:escL t with
   | none=>rw [hm] at h;cases h
   | some x =>
    obtain ⟨w,t1⟩:=x
    rw [hm] at h
    cases h
    rw [esc_ext hm u]
  rename_i h4;rw [if_neg h4]
  split at h
  ·rename_i hb
   rw [if_pos hb]
   cases hm:classL t with
   | none=>rw [hm] at h;cases h
   | some x =>
    obtain ⟨w,t1⟩:=x
    rw [hm] at h
    cases h
    rw [class_ext hm u]
  rename_i h5;rw [if_neg h5]
  split at h
  ·cases h
  ·rename_i hb;cases h;rw [if_neg hb]
theorem times_ext {m n:Node} {t r:List UInt8} (h:timesL m t=some (n,r)) {u:List UInt8} (hu:Fits r u):timesL m (t++u)=some (n,r++u):=by
 by_cases hne:t=[]
 ·subst hne
  have e:timesL m []=some (m,[]):=rfl
  rw [e] at h
  cases h
  have h41:u.headD 0=41:=hu.resolve_left (fun g=>g rfl)
  exact times_no (by rw [List.nil_append,h41];decide)
 ·unfold timesL at h ⊢
  rw [hd_app hne,tail_app hne]
  split at h
  ·rename_i hc;cases h;rw [if_pos hc]
  rename_i h0;rw [if_neg h0]
  split at h
  ·rename_i hc;cases h;rw [if_pos hc]
  rename_i h1;rw [if_neg h1]
  split at h
  ·rename_i hc;cases h;rw [if_pos hc]
  rename_i h2;rw [if_neg h2]
  split at h
  ·rename_i hc
   rw [if_pos hc]
   cases hm:brcL t.tail with
   | none=>rw [hm] at h;cases h
   | some x =>
    obtain ⟨lo,hi,t1⟩:=x
    rw [hm] at h
    cases h
    rw [brc_ext hm u]
  ·rename_i hc;cases h;rw [if_neg hc]
theorem piece_ext {t:List UInt8} {n:Node} {r:List UInt8} (hx:Ext rdA t.length) (h:rdP t=some (n,r)) {u:List UInt8} (hu:Fits r u):rdP (t++u)=some (n,r++u):=by
 unfold rdP pieceL at h ⊢
 cases hm:atomL rdA t with
 | none=>rw [hm] at h;cases h
 | some x =>
  obtain ⟨m,t1⟩:=x
  rw [hm] at h
  rw [atom_ext hx hm u]
  exact times_ext h hu
theorem rdO_ext:∀ (N:Nat) (A O:List Node) (t:List UInt8) (A' O':List Node) (r:List UInt8),t.length < N→Ext rdA t.length→rdO A O t=some (A',O',r)→∀ u,Fits r u→rdO A O (t++u)=some (A',O',r++u)
 | 0,_,_,_,_,_,_,h,_,_,_,_=>by omega
 | N + 1,A,O,t,A',O',r,hN,hx,h,u,hu=>by
  rw [rdO_eq] at h ⊢
  by_cases hne:t=[]
  ·subst hne
   rw [if_pos (.inl rfl)] at h
   cases h
   have h41:u.headD 0=41:=hu.resolve_left (fun g=>g rfl)
   rw [if_pos (.inr (by rw [List.nil_append];exact h41))]
  ·have hne2:¬ t++u=[]:=fun e=>hne (List.append_eq_nil_iff.1 e).1
   rw [hd_app hne,tail_app hne]
   have hlt:t.tail.length < t.length:=by
    cases t with
    | nil=>exact absurd rfl hne
    | cons c t=>simp
   split at h
   ·rename_i hc
    cases h
    have:t.headD 0=41:=hc.resolve_left hne
    rw [if_pos (.inr this)]
   ·rename_i hc
    rw [if_neg (fun g=>hc (.inr (g.resolve_left hne2)))]
    split at h
    ·rename_i hc2
     rw [if_pos hc2]
     exact rdO_ext N _ _ _ _ _ _ (by omega) (fun t' n' r' h1=>hx t' n' r' (by omega)) h u hu
    ·rename_i hc2
     rw [if_neg hc2]
     cases hm:rdP t with
     | none=>rw [hm] at h;cases h
     | some x =>
      obtain ⟨n,t1⟩:=x
      rw [hm] at h
      dsimp only at h
      have hl:=piece_len rdA_dec hm
      have hf:Fits t1 u:=by
       by_cases h1:t1=[]
       ·subst h1
        rw [rdO_eq,if_pos (.inl rfl)] at h
        cases h
        exact hu
       ·exact .inl h1
      rw [piece_ext hx hm hf]
      exact rdO_ext N _ _ _ _ _ _ (by omega) (fun t' n' r' h1=>hx t' n' r' (by omega)) h u hu
theorem rdA_ext:∀ N,Ext rdA N
 | 0=>fun t n r h=>by omega
 | N + 1=>fun t n r hN h u hu=>by
  rw [rdA_eq] at h ⊢
  cases hm:rdO [] [] t with
  | none=>rw [hm] at h;cases h
  | some x =>
   obtain ⟨A,O,t1⟩:=x
   rw [hm] at h
   cases h
   rw [rdO_ext (t.length + 1) [] [] t A O r (by omega) (fun t' n' r' h1=>rdA_ext N t' n' r' (by omega)) hm u hu]
theorem rd_group {a:List UInt8} {n:Node} (h:rdA a=some (n,[])) (u:List UInt8):atomL rdA (brk a++u)=some (n,u):=by
 have h1:=rdA_ext (a.length + 1) a n [] (by omega) h (41::u) (.inr rfl)
 show atomL rdA (40::((a++[41])++u))=_
 rw [List.append_assoc]
 unfold atomL
 dsimp only
 rw [if_pos rfl,show a++([41]++u)=a++41::u from rfl,h1]
 dsimp only
 rw [List.nil_append,if_pos (show (41::u).headD 0=41 from rfl)]
 rfl
theorem rd_groupP {a:List UInt8} {n:Node} (h:rdA a=some (n,[])) {u:List UInt8} (hu:quant (u.headD 0)=false):rdP (brk a++u)=some (n,u):=by
 unfold rdP pieceL
 rw [rd_group h]
 exact times_no hu
theorem rdO_grp {a:List UInt8} {n:Node} (h:rdA a=some (n,[])) {A O:List Node} {u:List UInt8} (hu:quant (u.headD 0)=false):rdO A O (brk a++u)=rdO A (O++[n]) u:=by
 obtain ⟨g1,g2,g3,_⟩:=brk_hd a u
 rw [rdO_eq,if_neg (fun g=>g.elim g1 g2),if_neg g3,rd_groupP h hu]
end Go.Proofs.YtanopbolgfcojaaGreatDoor.E.SZ
/- Brackets, sequences and choices. -/
namespace Go.Proofs.YtanopbolgfcojaaGreatDoor.E.SZ
open Go Go.Proofs E E.R
/-- nodes one behind the other, of what stands there -/
def mkC (f : List Node) : Node := match f with
  | [] => .empty
  | [n] => n
  | f => .mk 4 W4.zero 0 0 f
theorem full_flat : ∀ {l : List Node}, (∀ n ∈ l, Shape n) → full (flatF 4 l) = (l.map pieces).flatten
  | [], _ => rfl
  | n :: l, h => by
    have ih := full_flat (l := l) fun q hq => h q (by simp [hq])
    have hs := h n (by simp)
    have e : full (if n.kind = 4 then n.kids else [n]) = pieces n := by
      unfold pieces
      cases hs with
      | empty => rfl
      | one => rfl
      | beg => rfl
      | fin => rfl
      | cat l _ hk => exact full_self fun k hk' => (hk k hk').1
      | alt => rfl
      | rep => rfl
    simp only [flatF, List.map_cons, List.flatten_cons, ← e, ← ih]
    unfold full
    rw [List.filter_append]
theorem catF_mk {l : List Node} (h : ∀ n ∈ l, Shape n) : catF l = mkC ((l.map pieces).flatten) := by
  unfold catF mkC
  rw [full_flat h]
  try rfl
theorem pieces_kind {n k : Node} (h : Shape n) (hk : k ∈ pieces n) : k.kind ≠ 0 ∧ k.kind ≠ 4 := by
  unfold pieces at hk
  cases h with
  | empty => cases hk
  | cat l _ hl => exact hl k hk
  | one => rw [List.mem_singleton.1 hk]; exact ⟨by simp [Node.kind], by simp [Node.kind]⟩
  | beg => rw [List.mem_singleton.1 hk]; exact ⟨by simp [Node.kind], by simp [Node.kind]⟩
  | fin => rw [List.mem_singleton.1 hk]; exact ⟨by simp [Node.kind], by simp [Node.kind]⟩
  | alt => rw [List.mem_singleton.1 hk]; exact ⟨by simp [Node.kind], by simp [Node.kind]⟩
  | rep => rw [List.mem_singleton.1 hk]; exact ⟨by simp [Node.kind], by simp [Node.kind]⟩
theorem pieces_mkC {f : List Node} (h : ∀ k ∈ f, k.kind ≠ 0 ∧ k.kind ≠ 4) : pieces (mkC f) = f := by
  match f with
  | [] => rfl
  | [n] =>
    have := h n (by simp)
    show pieces n = [n]
    unfold pieces
    rw [if_neg this.1, if_neg this.2]
  | a :: b :: f => rfl
theorem cat_one {n : Node} (h : NormE n) : catF [n] = n := by
  by_cases h5 : n.kind = 5
  · have hs := h.shape
    cases hs with
    | alt => rfl
    | _ => simp [Node.kind] at h5
  · have h1 := cat_pieces h.shape h5
    rw [catF_mk (by intro k hk; have : k = n := by simpa using hk
                    rw [this]; exact h.shape)]
    rw [← h1, catF_mk (fun k hk => ?_)]
    · simp only [List.map_cons, List.map_nil, List.flatten_cons, List.flatten_nil, List.append_nil]
      rw [pieces_mkC]
      intro k hk
      obtain ⟨p, hp, hk⟩ := List.mem_flatten.1 hk
      obtain ⟨q, hq, rfl⟩ := List.mem_map.1 hp
      have hs := h.shape
      exact pieces_kind (by
        unfold pieces at hq
        split at hq
        · cases hq
        · split at hq
          · exact (h.kid hq).shape
          · have : q = n := by simpa using hq
            rw [this]; exact hs) hk
    · unfold pieces at hk
      split at hk
      · cases hk
      · split at hk
        · exact (h.kid hk).shape
        · have : k = n := by simpa using hk
          rw [this]; exact h.shape
theorem brk_q {p u : List UInt8} : quant ((brk p ++ u).headD 0) = false := (brk_hd p u).2.2.2
theorem rdA_two {a b : List UInt8} {x y : Node} (ha : rdA a = some (x, [])) (hb : rdA b = some (y, [])) : rdA (brk a ++ brk b) = some (catF [x, y], []) := by
  have h1 := rdO_grp ha (A := []) (O := []) (u := brk b) (by have := brk_q (p := b) (u := []); rw [List.append_nil] at this; exact this)
  have h2 := rdO_grp hb (A := []) (O := [x]) (u := []) rfl
  rw [List.append_nil] at h2
  rw [rdA_eq, h1]
  show (match rdO [] [x] (brk b) with | none => none | some (A, O, t') => some (endF (A ++ [catF O]), t')) = _
  rw [h2, rdO_end (.inl rfl)]
  rfl
theorem rdA_or {a b : List UInt8} {x y : Node} (ha : rdA a = some (x, [])) (hb : rdA b = some (y, [])) : rdA (brk a ++ 124 :: brk b) = some (endF [x, y], []) := by
  have h1 := rdO_grp ha (A := []) (O := []) (u := 124 :: brk b) (show quant 124 = false by decide)
  have h2 := rdO_grp hb (A := [x]) (O := []) (u := []) rfl
  rw [List.append_nil] at h2
  rw [rdA_eq, h1, rdO_bar]
  show (match rdO [catF [x]] [] (brk b) with | none => none | some (A, O, t') => some (endF (A ++ [catF O]), t')) = _
  rw [cat_one (rdA_norm _ _ _ ha), h2, rdO_end (.inl rfl)]
  show some (endF ([x] ++ [catF [y]]), []) = _
  rw [cat_one (rdA_norm _ _ _ hb)]
  rfl
def fl5 (n : Node) : List Node := if n.kind = 5 then n.kids else [n]
theorem flatF_cons {n : Node} {l : List Node} : flatF 5 (n :: l) = fl5 n ++ flatF 5 l := rfl
end Go.Proofs.YtanopbolgfcojaaGreatDoor.E.SZ
namespace Go.Proofs.YtanopbolgfcojaaGreatDoor.E.SZ.N
open Go Go.Proofs E E.R
abbrev fHas : Nat := 46
abbrev fPut : Nat := 28
abbrev fAt : Nat := 29
abbrev fStep : Nat := 30
abbrev fMatches : Nat := 21
abbrev natAV (k : Nat) : AV := .int .i64 (k : Int)

theorem shr_ok {x : BitVec 64} {m : Nat} (h : m < 64) : shiftE .shr .u64 (x.toNat : Int) (m : Int) = some (.int .u64 ((x >>> m).toNat : Int)) := by
  unfold shiftE
  rw [decide_eq_false (by omega), cond_false rfl]
  have e : Nat.min (Int.toNat (m : Int)) IntKind.u64.bits = m := by
    show min (Int.toNat (m : Int)) 64 = m
    omega
  simp only [e]
  congr 2
  have h2 : (0 : Int) ≤ 2 ^ m := Int.pow_nonneg (by omega)
  rw [Int.fdiv_eq_ediv_of_nonneg _ h2]
  have : ((x.toNat : Int) / 2 ^ m) = ((x.toNat / 2 ^ m : Nat) : Int) := by simp
  rw [this, BitVec.toNat_ushiftRight, Nat.shiftRight_eq_div_pow]
theorem shr_fd {x : BitVec 64} {r : Nat} (h : r < 64) : (x.toNat : Int).fdiv (2 ^ ((r : Int).toNat.min IntKind.u64.bits)) = ((x >>> r).toNat : Int) := by
  have := shr_ok (x := x) h
  unfold shiftE at this
  rw [decide_eq_false (by omega), cond_false rfl] at this
  simpa using this
theorem bit_ok {x : BitVec 64} {m : Nat} (h : m < 64) : ((IntKind.u64.wrap ((BitVec.ofInt IntKind.u64.bits ((x >>> m).toNat : Int) &&& BitVec.ofInt IntKind.u64.bits 1).toNat : Int) == 1)) = x.getLsbD m := by
  rw [ofInt_w]
  have e1 : BitVec.ofInt IntKind.u64.bits 1 = 1#64 := rfl
  rw [e1]
  have e2 : ((x >>> m) &&& 1#64).toNat = (x.getLsbD m).toNat := by
    rw [BitVec.toNat_and, BitVec.toNat_ushiftRight, BitVec.getLsbD, Nat.testBit]
    simp [Nat.and_comm, Nat.one_and_eq_mod_two]
    have := Nat.mod_two_eq_zero_or_one (x.toNat >>> m)
    rcases this with h | h <;> simp [h]
  have e3 : IntKind.u64.wrap (((x >>> m &&& 1#64).toNat : Nat) : Int) = ((x.getLsbD m).toNat : Int) := by
    rw [e2, wrap_u64 (by omega) (by have := Bool.toNat_lt (x.getLsbD m); omega)]
  show ((IntKind.u64.wrap (((x >>> m &&& 1#64).toNat : Nat) : Int)) == 1) = _
  rw [e3]
  cases x.getLsbD m <;> rfl
theorem quo64 {c j : Nat} (h : c / 64 = j) (hc : c < 256) : IntKind.wrap .u8 (Int.tdiv (c : Int) 64) = (j : Int) := by
  have : Int.tdiv (c : Int) 64 = (j : Int) := by rw [Int.tdiv_eq_ediv_of_nonneg (by omega)]; omega
  rw [this]; exact wrap_u8 (by omega) (by omega)
theorem rem64 {c r : Nat} (h : c % 64 = r) : Int.tmod (c : Int) 64 = (r : Int) := by
  rw [Int.tmod_eq_emod_of_nonneg (by omega)]; omega

theorem has0 {m : Int} {fl : Nat} {hp : List Blk} {s : W4} {c : UInt8} {r : Nat} (hq : IntKind.wrap .u8 (Int.tdiv (c.toNat : Int) 64) = 0) (hr : Int.tmod (c.toNat : Int) 64 = (r : Int)) (hl : r < 64) : evI (cfg m) fl fHas [.agg s.av, .int .u8 c.toNat] hp = some (.bool (s.a.getLsbD r), hp) := by
  rcases bcases (s.a.getLsbD r) with h1 | h1
  · exact evX (AV.bool true) (hp) [.w 1 1 IntKind.u8 (0) hq, .w 1 5 IntKind.u8 ((↑r : Int)) hr, .w 1 6 IntKind.u64 ((↑(s.a >>> r).toNat : Int)) (N.shr_fd (x := s.a) hl), .b 1 8 (((N.bit_ok (x := s.a) hl)).trans h1)] (by kernel_rfl) (tlP (by kernel_rfl) rfl (shutT (v := AV.bool true) (v' := AV.bool true) (by kernel_rfl))) (by rw [h1])
  · exact evX (AV.bool false) (hp) [.w 1 1 IntKind.u8 (0) hq, .w 1 5 IntKind.u8 ((↑r : Int)) hr, .w 1 6 IntKind.u64 ((↑(s.a >>> r).toNat : Int)) (N.shr_fd (x := s.a) hl), .b 1 8 (((N.bit_ok (x := s.a) hl)).trans h1)] (by kernel_rfl) (tlP (by kernel_rfl) rfl (shutT (v := AV.bool false) (v' := AV.bool false) (by kernel_rfl))) (by rw [h1])
theorem has1 {m : Int} {fl : Nat} {hp : List Blk} {s : W4} {c : UInt8} {r : Nat} (hq : IntKind.wrap .u8 (Int.tdiv (c.toNat : Int) 64) = 1) (hr : Int.tmod (c.toNat : Int) 64 = (r : Int)) (hl : r < 64) : evI (cfg m) fl fHas [.agg s.av, .int .u8 c.toNat] hp = some (.bool (s.b.getLsbD r), hp) := by
  rcases bcases (s.b.getLsbD r) with h1 | h1
  · exact evX (AV.bool true) (hp) [.w 1 1 IntKind.u8 (1) hq, .w 1 5 IntKind.u8 ((↑r : Int)) hr, .w 1 6 IntKind.u64 ((↑(s.b >>> r).toNat : Int)) (N.shr_fd (x := s.b) hl), .b 1 8 (((N.bit_ok (x := s.b) hl)).trans h1)] (by kernel_rfl) (tlP (by kernel_rfl) rfl (shutT (v := AV.bool true) (v' := AV.bool true) (by kernel_rfl))) (by rw [h1])
  · exact evX (AV.bool false) (hp) [.w 1 1 IntKind.u8 (1) hq, .w 1 5 IntKind.u8 ((↑r : Int)) hr, .w 1 6 IntKind.u64 ((↑(s.b >>> r).toNat : Int)) (N.shr_fd (x := s.b) hl), .b 1 8 (((N.bit_ok (x := s.b) hl)).trans h1)] (by kernel_rfl) (tlP (by kernel_rfl) rfl (shutT (v := AV.bool false) (v' := AV.bool false) (by kernel_rfl))) (by rw [h1])
theorem has2 {m : Int} {fl : Nat} {hp : List Blk} {s : W4} {c : UInt8} {r : Nat} (hq : IntKind.wrap .u8 (Int.tdiv (c.toNat : Int) 64) = 2) (hr : Int.tmod (c.toNat : Int) 64 = (r : Int)) (hl : r < 64) : evI (cfg m) fl fHas [.agg s.av, .int .u8 c.toNat] hp = some (.bool (s.c.getLsbD r), hp) := by
  rcases bcases (s.c.getLsbD r) with h1 | h1
  · exact evX (AV.bool true) (hp) [.w 1 1 IntKind.u8 (2) hq, .w 1 5 IntKind.u8 ((↑r : Int)) hr, .w 1 6 IntKind.u64 ((↑(s.c >>> r).toNat : Int)) (N.shr_fd (x := s.c) hl), .b 1 8 (((N.bit_ok (x := s.c) hl)).trans h1)] (by kernel_rfl) (tlP (by kernel_rfl) rfl (shutT (v := AV.bool true) (v' := AV.bool true) (by kernel_rfl))) (by rw [h1])
  · exact evX (AV.bool false) (hp) [.w 1 1 IntKind.u8 (2) hq, .w 1 5 IntKind.u8 ((↑r : Int)) hr, .w 1 6 IntKind.u64 ((↑(s.c >>> r).toNat : Int)) (N.shr_fd (x := s.c) hl), .b 1 8 (((N.bit_ok (x := s.c) hl)).trans h1)] (by kernel_rfl) (tlP (by kernel_rfl) rfl (shutT (v := AV.bool false) (v' := AV.bool false) (by kernel_rfl))) (by rw [h1])
theorem has3 {m : Int} {fl : Nat} {hp : List Blk} {s : W4} {c : UInt8} {r : Nat} (hq : IntKind.wrap .u8 (Int.tdiv (c.toNat : Int) 64) = 3) (hr : Int.tmod (c.toNat : Int) 64 = (r : Int)) (hl : r < 64) : evI (cfg m) fl fHas [.agg s.av, .int .u8 c.toNat] hp = some (.bool (s.d.getLsbD r), hp) := by
  rcases bcases (s.d.getLsbD r) with h1 | h1
  · exact evX (AV.bool true) (hp) [.w 1 1 IntKind.u8 (3) hq, .w 1 5 IntKind.u8 ((↑r : Int)) hr, .w 1 6 IntKind.u64 ((↑(s.d >>> r).toNat : Int)) (N.shr_fd (x := s.d) hl), .b 1 8 (((N.bit_ok (x := s.d) hl)).trans h1)] (by kernel_rfl) (tlP (by kernel_rfl) rfl (shutT (v := AV.bool true) (v' := AV.bool true) (by kernel_rfl))) (by rw [h1])
  · exact evX (AV.bool false) (hp) [.w 1 1 IntKind.u8 (3) hq, .w 1 5 IntKind.u8 ((↑r : Int)) hr, .w 1 6 IntKind.u64 ((↑(s.d >>> r).toNat : Int)) (N.shr_fd (x := s.d) hl), .b 1 8 (((N.bit_ok (x := s.d) hl)).trans h1)] (by kernel_rfl) (tlP (by kernel_rfl) rfl (shutT (v := AV.bool false) (v' := AV.bool false) (by kernel_rfl))) (by rw [h1])
theorem has_ok {m : Int} {fl : Nat} {hp : List Blk} {a b c d : BitVec 64} {x : UInt8} : evI (cfg m) fl fHas [.agg [wAV a, wAV b, wAV c, wAV d], .int .u8 x.toNat] hp = some (.bool (W4.has ⟨a, b, c, d⟩ x.toNat), hp) := by
  have hx := x.toNat_lt
  have hl : x.toNat % 64 < 64 := Nat.mod_lt _ (by omega)
  unfold W4.has W4.word
  rcases (by omega : x.toNat / 64 = 0 ∨ x.toNat / 64 = 1 ∨ x.toNat / 64 = 2 ∨ x.toNat / 64 = 3) with h | h | h | h <;> rw [h]
  · exact has0 (s := ⟨a, b, c, d⟩) (quo64 h (by omega)) (rem64 rfl) hl
  · exact has1 (s := ⟨a, b, c, d⟩) (quo64 h (by omega)) (rem64 rfl) hl
  · exact has2 (s := ⟨a, b, c, d⟩) (quo64 h (by omega)) (rem64 rfl) hl
  · exact has3 (s := ⟨a, b, c, d⟩) (quo64 h (by omega)) (rem64 rfl) hl

/-- states that come to a text's place, each once -/
def putF : List Bool → List Nat → List Nat → List Bool × List Nat
  | m, l, [] => (m, l)
  | m, l, k :: ks => if m.getD k true = true then putF m l ks else putF (m.set k true) (l ++ [k]) ks


abbrev putSt (rb : Nat) (x : AV) (n i : Nat) : List TV := [.v (.ptr rb 0), J, J, J, J, J, .v x, .v (AI n), .v (AI i)] ++ List.replicate 28 J
abbrev putEnd : List TV := List.replicate 37 J
theorem append_nat {m : Int} {fl : Nat} {hp : List Blk} {x : AV} {l : List Nat} {k : Nat} (h : Gr fl 1 hp x (l.map natAV)) (hl : l.length < 1000000) (hf : fl ≤ hp.length) :
    ∃ x' hp', (∀ ts, builtinE (cfg m) fl false ⟨ts, hp⟩ .append [67, 67] [x, .lit 1 .exact [natAV k]] = some ⟨.v x', ts, hp', .fw⟩) ∧ Gr fl 1 hp' x' ((l ++ [k]).map natAV) ∧ FrC [] hp hp' := by
  obtain ⟨x', hp', h1, h2, h3⟩ := append_gr (C := cfg m) (t := 67) (y := .lit 1 .exact [natAV k]) (ws := [natAV k]) (bytes := 8) h (by rfl) (by kernel_rfl) (by simp) (by simp; omega) hf
  exact ⟨x', hp', h1, by simpa using h2, h3⟩
theorem list_set_len {n : Nat} {ms : List Bool} {k : Nat} (h : ms.length = n) : (ms.set k true).length = n := by simpa using h
theorem fl_len {fl b : Nat} {hp : List Blk} {cs : List AV} (h : blkCells hp b = some cs) (hf : fl ≤ b) : fl ≤ hp.length := by have := blk_lt h; omega

theorem count_set : ∀ (ms : List Bool) (k : Nat), ms.getD k true = false → (ms.set k true).count false + 1 = ms.count false
  | [], k, h => by simp at h
  | b :: ms, 0, h => by simp at h; subst h; simp
  | b :: ms, k + 1, h => by
    have ih := count_set ms k (by simpa using h)
    simp only [List.set_cons_succ, List.count_cons]; omega
theorem putF_len : ∀ (ks : List Nat) (ms : List Bool) (l : List Nat), (putF ms l ks).1.length = ms.length
  | [], _, _ => rfl
  | k :: ks, ms, l => by unfold putF; split; · exact putF_len ks ms l
                         · rw [putF_len ks]; simp
theorem putF_count : ∀ (ks : List Nat) (ms : List Bool) (l : List Nat), (putF ms l ks).2.length + (putF ms l ks).1.count false = l.length + ms.count false
  | [], _, _ => rfl
  | k :: ks, ms, l => by
    unfold putF; split
    · exact putF_count ks ms l
    · rename_i h
      rw [putF_count ks]
      have := count_set ms k (by simpa using h)
      simp; omega

theorem count_step {n k : Nat} {ms : List Bool} {l : List Nat} (h : l.length + ms.count false = n) (h1 : ms.getD k true = false) : (l ++ [k]).length + (ms.set k true).count false = n := by
  have := count_set ms k h1
  simp; omega

abbrev q0_put_l (rb : Nat) (x : AV) (vs : List AV) (i : Nat) : List TV := [TV.v (AV.ptr rb 0), J, J, J, J, J, TV.v x, TV.v (AI vs.length), TV.v (AI ((↑i : Int) + 1)), J, J, J, J, J, J, J, J, J, J, J, J, J, J, J, J, J, J, J, J, J, J, J, J, J, J, J, J]
theorem put_l {m : Int} {fl rb mb pb n : Nat} {hp : List Blk} {sl x : AV} {s : List UInt8} {ms : List Bool} {l ks : List Nat} {vs : List AV} {i k : Nat} (hb : blkCells hp rb = some [.arr 1 mb 0 n, sl, .ptr pb 0, .str s]) (hm : blkCells hp mb = some (ms.map .bool)) (hn : ms.length = n) (hc : l.length + ms.count false = n) (hg : Gr fl 1 hp sl (l.map natAV)) (hx : IsSl 1 x vs) (hv : vs[i]? = some (natAV k)) (hi : i < vs.length) (hk : k < n) (hf : fl ≤ rb) (hf2 : fl ≤ mb) (hne : rb ≠ mb) (hl : n < 1000000) (hvl : vs.length < 1000000) (ih : ∀ {hp1 : List Blk} {sl1 : AV} {ms1 : List Bool} {l1 : List Nat}, blkCells hp1 rb = some [.arr 1 mb 0 n, sl1, .ptr pb 0, .str s] → blkCells hp1 mb = some (ms1.map .bool) → Gr fl 1 hp1 sl1 (l1.map natAV) → ms1.length = n → l1.length + ms1.count false = n → ∃ hp' sl', LoopI (cfg m) fl fPut (bodyAt (cfg m) fPut 1) 1 ⟨putSt rb x vs.length (i + 1), hp1⟩ (.exit 0) ⟨putEnd, hp'⟩ ∧ blkCells hp' rb = some [.arr 1 mb 0 n, sl', .ptr pb 0, .str s] ∧ blkCells hp' mb = some ((putF ms1 l1 ks).1.map .bool) ∧ Gr fl 1 hp' sl' ((putF ms1 l1 ks).2.map natAV) ∧ FrC [rb, mb] hp1 hp') : ∃ hp' sl', LoopI (cfg m) fl fPut (bodyAt (cfg m) fPut 1) 1 ⟨putSt rb x vs.length i, hp⟩ (.exit 0) ⟨putEnd, hp'⟩ ∧ blkCells hp' rb = some [.arr 1 mb 0 n, sl', .ptr pb 0, .str s] ∧ blkCells hp' mb = some ((putF ms l (k :: ks)).1.map .bool) ∧ Gr fl 1 hp' sl' ((putF ms l (k :: ks)).2.map natAV) ∧ FrC [rb, mb] hp hp' := by
  have zz0 := load_ok (C := cfg m) (t := 66) (off := 0) (x := AV.arr 1 mb 0 n) hb (by kernel_rfl)
  rcases bcases (ms.getD k true) with h1 | h1
  · obtain ⟨hp'2, sl'3, e4, h5, h6, h7, h8⟩ := (ih hb hm hg hn hc)
    exact ⟨hp'2, _, loopStepC (St.mk (q0_put_l rb x vs i) hp) [.b 1 0 (decide_eq_true ((show (↑i : Int) < (↑vs.length : Int) from (by omega)))), .a 2 0 (indexAddr_sl (C := cfg m) (t := 67) (n := (↑i : Int)) hx (by kernel_rfl) (by omega) hv), .m 3 3 zz0, .a 3 5 (indexAddr_arr' (C := cfg m) (t := 66) (sz := 1) (b := mb) (off := 0) (len := n) (o := k) (n := (↑k : Int)) (by kernel_rfl) (by omega) (by omega) (by simp only [Int.toNat_natCast, Nat.zero_add, Nat.mul_one])), .mb 3 6 (load_bools (C := cfg m) (t := 4) (off := k) (by kernel_rfl) hm (by omega)) h1, .w 6 0 IntKind.i64 ((↑i : Int) + 1) (wrap_i64' (by omega))] (by kernel_rfl) e4 rfl, by assumption, by simp only [putF, h1, Bool.false_eq_true, ↓reduceIte]; assumption, by simp only [putF, h1, Bool.false_eq_true, ↓reduceIte]; assumption, by first | assumption | exact FrC.put3 ‹FrC [] _ _› ‹FrC [rb, mb] _ _› (by simp) (by simp)⟩
  · obtain ⟨x'2, hp'3, e4, h5, h6⟩ := (append_nat (m := m) (fl := fl) (hp := setAt hp mb (BC (List.map AV.bool (ms.set k true)))) (x := sl) (l := l) (k := k) (gr_set (c := List.map AV.bool (ms.set k true)) hg hm) (by omega) (fl_len (hp := setAt hp mb (BC (List.map AV.bool (ms.set k true)))) (cs := List.map AV.bool (ms.set k true)) (blk_set (blk_lt hm)) hf2))
    obtain ⟨hp'7, sl'8, e9, h10, h11, h12, h13⟩ := (ih (hp1 := setAt hp'3 rb (BC [AV.arr 1 mb 0 n, x'2, AV.ptr pb 0, AV.str s])) (sl1 := x'2) (ms1 := ms.set k true) (l1 := l ++ [k]) (blk_set (blk_lt (hp := hp'3) (b := rb) (cs := [AV.arr 1 mb 0 n, sl, AV.ptr pb 0, AV.str s]) (frC_blk (b := rb) (cs := [AV.arr 1 mb 0 n, sl, AV.ptr pb 0, AV.str s]) h6 (blk_set_ne (by omega) hb) (by simp_all; done)))) (blk_set_ne hne (frC_blk (b := mb) (cs := List.map AV.bool (ms.set k true)) h6 (blk_set (blk_lt hm)) (by simp_all; done))) (gr_set (b := rb) (cs := [AV.arr 1 mb 0 n, sl, AV.ptr pb 0, AV.str s]) (c := [AV.arr 1 mb 0 n, x'2, AV.ptr pb 0, AV.str s]) h5 (frC_blk (b := rb) (cs := [AV.arr 1 mb 0 n, sl, AV.ptr pb 0, AV.str s]) h6 (blk_set_ne (by omega) hb) (by simp_all; done))) (list_set_len (k := k) hn) (count_step hc h1))
    exact ⟨hp'7, _, loopStepC (St.mk (q0_put_l rb x vs i) (setAt hp'3 rb (BC [AV.arr 1 mb 0 n, x'2, AV.ptr pb 0, AV.str s]))) [.b 1 0 (decide_eq_true ((show (↑i : Int) < (↑vs.length : Int) from (by omega)))), .a 2 0 (indexAddr_sl (C := cfg m) (t := 67) (n := (↑i : Int)) hx (by kernel_rfl) (by omega) hv), .m 3 3 zz0, .a 3 5 (indexAddr_arr' (C := cfg m) (t := 66) (sz := 1) (b := mb) (off := 0) (len := n) (o := k) (n := (↑k : Int)) (by kernel_rfl) (by omega) (by omega) (by simp only [Int.toNat_natCast, Nat.zero_add, Nat.mul_one])), .mb 3 6 (load_bools (C := cfg m) (t := 4) (off := k) (by kernel_rfl) hm (by omega)) h1, .m 4 3 zz0, .a 4 5 (indexAddr_arr' (C := cfg m) (t := 66) (sz := 1) (b := mb) (off := 0) (len := n) (o := k) (n := (↑k : Int)) (by kernel_rfl) (by omega) (by omega) (by simp only [Int.toNat_natCast, Nat.zero_add, Nat.mul_one])), .t 4 6 (store_bools (C := cfg m) (t := 4) (off := k) (hp' := setAt hp mb (BC (List.map AV.bool (ms.set k true)))) (v := true) (by kernel_rfl) hm (by omega) hf2 rfl), .m 5 4 (load_ok (C := cfg m) (t := 67) (b := rb) (off := 1) (hp := setAt hp mb (BC (List.map AV.bool (ms.set k true)))) (cs := [AV.arr 1 mb 0 n, sl, AV.ptr pb 0, AV.str s]) (x := sl) (blk_set_ne (by omega) hb) (by kernel_rfl)), .m 5 7 e4, .t 5 10 (store_sl (C := cfg m) (t := 67) (off := 1) (sz := 1) (hp := hp'3) (hp' := setAt hp'3 rb (BC [AV.arr 1 mb 0 n, x'2, AV.ptr pb 0, AV.str s])) (cs := [AV.arr 1 mb 0 n, sl, AV.ptr pb 0, AV.str s]) (x := x'2) (vs := List.map natAV (l ++ [k])) (Gr.isSl h5) (by kernel_rfl) (frC_blk (b := rb) (cs := [AV.arr 1 mb 0 n, sl, AV.ptr pb 0, AV.str s]) h6 (blk_set_ne (by omega) hb) (by simp_all; done)) (by kernel_rfl) hf rfl), .w 6 0 IntKind.i64 ((↑i : Int) + 1) (wrap_i64' (by omega))] (by kernel_rfl) e9 rfl, by assumption, by simp only [putF, h1, Bool.false_eq_true, ↓reduceIte]; assumption, by simp only [putF, h1, Bool.false_eq_true, ↓reduceIte]; assumption, by first | assumption | exact FrC.put3 ‹FrC [] _ _› ‹FrC [rb, mb] _ _› (by simp) (by simp)⟩

theorem put_x {m : Int} {fl rb : Nat} {hp : List Blk} {x : AV} {n i : Nat} (hi : n ≤ i) : LoopI (cfg m) fl fPut (bodyAt (cfg m) fPut 1) 1 ⟨putSt rb x n i, hp⟩ (.exit 0) ⟨putEnd, hp⟩ := by
  exact loopEndC (.exit 0) (St.mk ([J] ++ Jn 36) hp) [.b 1 0 (decide_eq_false ((show ¬(↑i : Int) < (↑n : Int) from (by omega))))] (by kernel_rfl) (fun h => by cases h) rfl

theorem put_loop {m : Int} {fl rb mb pb n : Nat} {x : AV} {s : List UInt8} {vs : List AV} (hx : IsSl 1 x vs) (hf : fl ≤ rb) (hf2 : fl ≤ mb) (hne : rb ≠ mb) (hl : n < 1000000) (hvl : vs.length < 1000000) : ∀ (ks : List Nat) (i : Nat) {hp : List Blk} {sl : AV} {ms : List Bool} {l : List Nat}, vs.drop i = ks.map natAV → (∀ k ∈ ks, k < n) → blkCells hp rb = some [.arr 1 mb 0 n, sl, .ptr pb 0, .str s] → blkCells hp mb = some (ms.map .bool) → Gr fl 1 hp sl (l.map natAV) → ms.length = n → l.length + ms.count false = n →
    ∃ hp' sl', LoopI (cfg m) fl fPut (bodyAt (cfg m) fPut 1) 1 ⟨putSt rb x vs.length i, hp⟩ (.exit 0) ⟨putEnd, hp'⟩ ∧ blkCells hp' rb = some [.arr 1 mb 0 n, sl', .ptr pb 0, .str s] ∧ blkCells hp' mb = some ((putF ms l ks).1.map .bool) ∧ Gr fl 1 hp' sl' ((putF ms l ks).2.map natAV) ∧ FrC [rb, mb] hp hp'
  | [], i, hp, sl, ms, l, hd, _, hb, hm, hg, hn, hc => by
    have : vs.length ≤ i := by simpa using hd
    exact ⟨hp, sl, put_x this, hb, hm, hg, .refl _ _⟩
  | k :: ks, i, hp, sl, ms, l, hd, hk, hb, hm, hg, hn, hc => by
    have h1 : vs[i]? = some (natAV k) := by
      have := congrArg (·[0]?) hd
      simpa using this
    have hi : i < vs.length := (List.getElem?_eq_some_iff.1 h1).1
    have hd' : vs.drop (i + 1) = ks.map natAV := by
      rw [← List.drop_drop, hd]; rfl
    exact put_l hb hm hn hc hg hx h1 hi (hk k (by simp)) hf hf2 hne hl hvl fun hb1 hm1 hg1 hn1 hc1 => put_loop hx hf hf2 hne hl hvl ks (i + 1) hd' (fun q hq => hk q (by simp [hq])) hb1 hm1 hg1 hn1 hc1

theorem put_lp {m : Int} {fl rb mb pb n nv : Nat} {x : AV} {s : List UInt8} {ks : List Nat} {hp : List Blk} {sl : AV} {ms : List Bool} {l : List Nat} (hb : blkCells hp rb = some [.arr 1 mb 0 n, sl, .ptr pb 0, .str s]) (hm : blkCells hp mb = some (ms.map .bool)) (hg : Gr fl 1 hp sl (l.map natAV)) (hx : IsSl 1 x (ks.map natAV)) (hnv : nv = (ks.map natAV).length) (hf : fl ≤ rb) (hf2 : fl ≤ mb) (hne : rb ≠ mb) (hl : n < 1000000) (hvl : ks.length < 1000000) (hk : ∀ k ∈ ks, k < n) (hn : ms.length = n) (hc : l.length + ms.count false = n) :
    ∃ hp' sl', LoopI (cfg m) fl fPut (bodyAt (cfg m) fPut 1) 1 ⟨putSt rb x nv 0, hp⟩ (.exit 0) ⟨putEnd, hp'⟩ ∧ blkCells hp' rb = some [.arr 1 mb 0 n, sl', .ptr pb 0, .str s] ∧ blkCells hp' mb = some ((putF ms l ks).1.map .bool) ∧ Gr fl 1 hp' sl' ((putF ms l ks).2.map natAV) ∧ FrC [rb, mb] hp hp' :=
  hnv ▸ put_loop hx hf hf2 hne hl (by simpa using hvl) ks 0 rfl hk hb hm hg hn hc

theorem put_ok {m : Int} {fl rb mb pb n : Nat} {x : AV} {s : List UInt8} {ks : List Nat} {hp : List Blk} {sl : AV} {ms : List Bool} {l : List Nat} (hb : blkCells hp rb = some [.arr 1 mb 0 n, sl, .ptr pb 0, .str s]) (hm : blkCells hp mb = some (ms.map .bool)) (hg : Gr fl 1 hp sl (l.map natAV)) (hx : IsSl 1 x (ks.map natAV)) (hf : fl ≤ rb) (hf2 : fl ≤ mb) (hne : rb ≠ mb) (hl : n < 1000000) (hvl : ks.length < 1000000) (hk : ∀ k ∈ ks, k < n) (hn : ms.length = n) (hc : l.length + ms.count false = n) : ∃ hp' sl', evI (cfg m) fl fPut [.ptr rb 0, x] hp = some (.tup [], hp') ∧ blkCells hp' rb = some [.arr 1 mb 0 n, sl', .ptr pb 0, .str s] ∧ blkCells hp' mb = some ((putF ms l ks).1.map .bool) ∧ Gr fl 1 hp' sl' ((putF ms l ks).2.map natAV) ∧ FrC [rb, mb] hp hp' := by
  obtain ⟨hp'1, sl'2, e3, h4, h5, h6, h7⟩ := (put_lp (m := m) (nv := (List.map natAV ks).length) hb hm hg hx rfl hf hf2 hne hl hvl hk hn hc)
  exact ⟨hp'1, _, evX (AV.tup []) (hp'1) [.m 0 1 (len_sl (C := cfg m) (t := 67) (ts' := []) (fl := fl) (ar := false) (hp := hp) hx (by kernel_rfl)), .l 1 e3] (by kernel_rfl) (tlK (by kernel_rfl) rfl) rfl, by assumption, by assumption, by assumption, by assumption⟩
abbrev tState : Nat := 80

/-- a state: what it does, the bytes it takes, where it goes on -/
structure NS where
  kind : Int
  set : W4
  next : List Nat
abbrev nsAV (x : NS) (nx : AV) : List AV := [AI x.kind, wAV x.set.a, wAV x.set.b, wAV x.set.c, wAV x.set.d, nx]
/-- states that lie in a block -/
def StOK (hp : List Blk) (sb : Nat) (st : List NS) : Prop := ∃ cs, blkCells hp sb = some cs ∧ ∀ (i : Nat) (x : NS), st[i]? = some x → ∃ nx, (cs.drop (i * 6)).take 6 = nsAV x nx ∧ IsSl 1 nx (x.next.map natAV)
theorem tyState {m : Int} : (cfg m).ty tState = some ⟨.struct [(0, 3), (1, 40), (5, 67)], 6, 64, [.int .i64 0, .int .u64 0, .int .u64 0, .int .u64 0, .int .u64 0, .nilS], false⟩ := by kernel_rfl
theorem load_state {m : Int} {hp : List Blk} {sb k : Nat} {st : List NS} {x : NS} (h : StOK hp sb st) (hk : st[k]? = some x) :
    ∃ nx, (∀ ts, loadAt (cfg m) ⟨ts, hp⟩ tState (.v (.ptr sb (k * 6))) = some ⟨.v (.agg (nsAV x nx)), ts, hp, .hb sb⟩) ∧ IsSl 1 nx (x.next.map natAV) := by
  obtain ⟨cs, h1, h2⟩ := h
  obtain ⟨nx, h3, h4⟩ := h2 k x hk
  refine ⟨nx, fun ts => ?_, h4⟩
  unfold loadAt
  simp only [tyState, h1, part, TK.agg, cond_true rfl, h3]
  rfl
theorem StOK.fr {S : List Nat} {hp hp' : List Blk} {sb : Nat} {st : List NS} (h : FrC S hp hp') (hs : StOK hp sb st) (hn : sb ∉ S) : StOK hp' sb st := by
  obtain ⟨cs, h1, h2⟩ := hs
  exact ⟨cs, h.2 sb cs hn h1, h2⟩

abbrev atSt (rb : Nat) (pl : Int) (f : Bool) (k : Nat) : List TV := [.v (.ptr rb 0), .v (AI pl), J, J, .v (.bool f), .v (AI k)] ++ List.replicate 63 J
abbrev atEnd (f : Bool) : List TV := [J, J, J, J, .v (.bool f)] ++ List.replicate 64 J

/-- one state of a place -/
def atStep (x : NS) (pl len : Int) (ms : List Bool) (l : List Nat) (f : Bool) : List Bool × List Nat × Bool :=
  if x.kind = 0 then (ms, l, true) else if x.kind = 4 ∨ (x.kind = 2 ∧ pl = 0) ∨ (x.kind = 3 ∧ pl = len) then ((putF ms l x.next).1, (putF ms l x.next).2, f) else (ms, l, f)

abbrev q0_at_l (rb : Nat) (pl : Int) (f : Bool) (k : Nat) : List TV := [TV.v (AV.ptr rb 0), TV.v (AI pl), J, J, TV.v (AV.bool f), TV.v (AI ((↑k : Int) + 1)), J, J, J, J, J, J, J, J, J, J, J, J, J, J, J, J, J, J, J, J, J, J, J, J, J, J, J, J, J, J, J, J, J, J, J, J, J, J, J, J, J, J, J, J, J, J, J, J, J, J, J, J, J, J, J, J, J, J, J, J, J, J, J]
theorem at_l {m : Int} {fl rb mb pb sb n k q : Nat} {hp : List Blk} {sl : AV} {s : List UInt8} {pl : Int} {ms : List Bool} {l : List Nat} {rest : List AV} {st : List NS} {x : NS} {f : Bool} (hb : blkCells hp rb = some [.arr 1 mb 0 n, sl, .ptr pb 0, .str s]) (hm : blkCells hp mb = some (ms.map .bool)) (hg : Gr fl 1 hp sl (l.map natAV)) (hpb : blkCells hp pb = some (.arr 6 sb 0 n :: rest)) (hst : StOK hp sb st) (hx : st[q]? = some x) (hq : q < n) (hv : (l.map natAV)[k]? = some (natAV q)) (hi : k < (l.map natAV).length) (hf : fl ≤ rb) (hf2 : fl ≤ mb) (hne : rb ≠ mb) (hl : n < 1000000) (hvl : x.next.length < 1000000) (hk : ∀ k ∈ x.next, k < n) (hn : ms.length = n) (hc : l.length + ms.count false = n) (hkk : k < 1000000) : ∃ hp' sl', LoopS (cfg m) fl fAt (bodyAt (cfg m) fAt 2) 2 ⟨atSt rb pl f k, hp⟩ ⟨atSt rb pl (atStep x pl s.length ms l f).2.2 (k + 1), hp'⟩ ∧ blkCells hp' rb = some [.arr 1 mb 0 n, sl', .ptr pb 0, .str s] ∧ blkCells hp' mb = some ((atStep x pl s.length ms l f).1.map .bool) ∧ Gr fl 1 hp' sl' ((atStep x pl s.length ms l f).2.1.map natAV) ∧ FrC [rb, mb] hp hp' := by
  have zz2 := load_ok (C := cfg m) (t := 25) (off := 2) (x := AV.ptr pb 0) hb (by kernel_rfl)
  have zz1 := load_ok (C := cfg m) (t := 50) (off := 0) (x := AV.arr 6 sb 0 n) hpb (by kernel_rfl)
  have zz0 := load_ok (C := cfg m) (t := 67) (off := 1) (x := sl) hb (by kernel_rfl)
  obtain ⟨nx1, e2, h3⟩ := (load_state (m := m) hst hx)
  by_cases h4 : x.kind = 0
  · exact ⟨hp, _, loopStepS (St.mk [TV.v (AV.ptr rb 0), TV.v (AI pl), J, J, TV.v (AV.bool true), TV.v (AI ((↑k : Int) + 1)), J, J, J, J, J, J, J, J, J, J, J, J, J, J, J, J, J, J, J, J, J, J, J, J, J, J, J, J, J, J, J, J, J, J, J, J, J, J, J, J, J, J, J, J, J, J, J, J, J, J, J, J, J, J, J, J, J, J, J, J, J, J, J] hp) [.m 2 5 zz0, .m 2 6 (len_sl (C := cfg m) (t := 67) (ts' := []) (fl := fl) (ar := false) (sz := 1) (x := sl) (vs := List.map natAV l) (hp := hp) (Gr.isSl hg) (by kernel_rfl)), .b 2 7 (decide_eq_true ((show (↑k : Int) < (↑(List.map natAV l).length : Int) from (by omega)))), .m 4 3 zz2, .m 4 7 zz1, .m 4 12 zz0, .a 4 14 (indexAddr_sl (C := cfg m) (t := 67) (sz := 1) (x := sl) (n := (↑k : Int)) (Gr.isSl hg) (by kernel_rfl) (by omega) hv), .a 4 16 (indexAddr_arr' (C := cfg m) (t := 50) (sz := 6) (b := sb) (off := 0) (len := n) (o := q * 6) (n := (↑q : Int)) (by kernel_rfl) (by omega) (by omega) (by simp only [Int.toNat_natCast, Nat.zero_add, Nat.mul_one])), .m 4 17 e2, .b 5 2 (beq_iff_eq.2 h4), .w 3 1 IntKind.i64 ((↑k : Int) + 1) (wrap_i64' (by omega))] (by kernel_rfl) (by simp [atStep, *]), by assumption, by simp [atStep, *], by simp [atStep, *], by first | assumption | exact .refl _ _⟩
  · by_cases h5 : x.kind = 4
    · obtain ⟨hp'6, sl'7, e8, h9, h10, h11, h12⟩ := (N.put_ok (m := m) hb hm hg h3 hf hf2 hne hl hvl hk hn hc)
      exact ⟨hp'6, _, loopStepS (St.mk (q0_at_l rb pl f k) hp'6) [.m 2 5 zz0, .m 2 6 (len_sl (C := cfg m) (t := 67) (ts' := []) (fl := fl) (ar := false) (sz := 1) (x := sl) (vs := List.map natAV l) (hp := hp) (Gr.isSl hg) (by kernel_rfl)), .b 2 7 (decide_eq_true ((show (↑k : Int) < (↑(List.map natAV l).length : Int) from (by omega)))), .m 4 3 zz2, .m 4 7 zz1, .m 4 12 zz0, .a 4 14 (indexAddr_sl (C := cfg m) (t := 67) (sz := 1) (x := sl) (n := (↑k : Int)) (Gr.isSl hg) (by kernel_rfl) (by omega) hv), .a 4 16 (indexAddr_arr' (C := cfg m) (t := 50) (sz := 6) (b := sb) (off := 0) (len := n) (o := q * 6) (n := (↑q : Int)) (by kernel_rfl) (by omega) (by omega) (by simp only [Int.toNat_natCast, Nat.zero_add, Nat.mul_one])), .m 4 17 e2, .b 5 2 (beq_false_of_ne h4), .b 7 2 (beq_iff_eq.2 h5), .c 10 5 e8, .w 3 1 IntKind.i64 ((↑k : Int) + 1) (wrap_i64' (by omega))] (by kernel_rfl) (by simp [atStep, *]), by assumption, by simp [atStep, *], by simp [atStep, *], by first | assumption | exact .refl _ _⟩
    · by_cases h6 : x.kind = 2
      · by_cases h7 : pl = 0
        · obtain ⟨hp'8, sl'9, e10, h11, h12, h13, h14⟩ := (N.put_ok (m := m) hb hm hg h3 hf hf2 hne hl hvl hk hn hc)
          exact ⟨hp'8, _, loopStepS (St.mk (q0_at_l rb pl f k) hp'8) [.m 2 5 zz0, .m 2 6 (len_sl (C := cfg m) (t := 67) (ts' := []) (fl := fl) (ar := false) (sz := 1) (x := sl) (vs := List.map natAV l) (hp := hp) (Gr.isSl hg) (by kernel_rfl)), .b 2 7 (decide_eq_true ((show (↑k : Int) < (↑(List.map natAV l).length : Int) from (by omega)))), .m 4 3 zz2, .m 4 7 zz1, .m 4 12 zz0, .a 4 14 (indexAddr_sl (C := cfg m) (t := 67) (sz := 1) (x := sl) (n := (↑k : Int)) (Gr.isSl hg) (by kernel_rfl) (by omega) hv), .a 4 16 (indexAddr_arr' (C := cfg m) (t := 50) (sz := 6) (b := sb) (off := 0) (len := n) (o := q * 6) (n := (↑q : Int)) (by kernel_rfl) (by omega) (by omega) (by simp only [Int.toNat_natCast, Nat.zero_add, Nat.mul_one])), .m 4 17 e2, .b 5 2 (beq_false_of_ne h4), .b 7 2 (beq_false_of_ne h5), .b 8 2 (beq_iff_eq.2 h6), .b 8 5 (beq_iff_eq.2 h7), .c 10 5 e10, .w 3 1 IntKind.i64 ((↑k : Int) + 1) (wrap_i64' (by omega))] (by kernel_rfl) (by simp [atStep, *]), by assumption, by simp [atStep, *], by simp [atStep, *], by first | assumption | exact .refl _ _⟩
        · exact ⟨hp, _, loopStepS (St.mk (q0_at_l rb pl f k) hp) [.m 2 5 zz0, .m 2 6 (len_sl (C := cfg m) (t := 67) (ts' := []) (fl := fl) (ar := false) (sz := 1) (x := sl) (vs := List.map natAV l) (hp := hp) (Gr.isSl hg) (by kernel_rfl)), .b 2 7 (decide_eq_true ((show (↑k : Int) < (↑(List.map natAV l).length : Int) from (by omega)))), .m 4 3 zz2, .m 4 7 zz1, .m 4 12 zz0, .a 4 14 (indexAddr_sl (C := cfg m) (t := 67) (sz := 1) (x := sl) (n := (↑k : Int)) (Gr.isSl hg) (by kernel_rfl) (by omega) hv), .a 4 16 (indexAddr_arr' (C := cfg m) (t := 50) (sz := 6) (b := sb) (off := 0) (len := n) (o := q * 6) (n := (↑q : Int)) (by kernel_rfl) (by omega) (by omega) (by simp only [Int.toNat_natCast, Nat.zero_add, Nat.mul_one])), .m 4 17 e2, .b 5 2 (beq_false_of_ne h4), .b 7 2 (beq_false_of_ne h5), .b 8 2 (beq_iff_eq.2 h6), .b 8 5 (beq_false_of_ne h7), .b 9 2 (beq_false_of_ne ((show ¬x.kind = 3 from (by omega)))), .w 3 1 IntKind.i64 ((↑k : Int) + 1) (wrap_i64' (by omega))] (by kernel_rfl) (by simp [atStep, *]), by assumption, by simp [atStep, *], by simp [atStep, *], by first | assumption | exact .refl _ _⟩
      · by_cases h7 : x.kind = 3
        · by_cases h8 : pl = (↑s.length : Int)
          · obtain ⟨hp'9, sl'10, e11, h12, h13, h14, h15⟩ := (N.put_ok (m := m) hb hm hg h3 hf hf2 hne hl hvl hk hn hc)
            exact ⟨hp'9, _, loopStepS (St.mk (q0_at_l rb pl f k) hp'9) [.m 2 5 zz0, .m 2 6 (len_sl (C := cfg m) (t := 67) (ts' := []) (fl := fl) (ar := false) (sz := 1) (x := sl) (vs := List.map natAV l) (hp := hp) (Gr.isSl hg) (by kernel_rfl)), .b 2 7 (decide_eq_true ((show (↑k : Int) < (↑(List.map natAV l).length : Int) from (by omega)))), .m 4 3 zz2, .m 4 7 zz1, .m 4 12 zz0, .a 4 14 (indexAddr_sl (C := cfg m) (t := 67) (sz := 1) (x := sl) (n := (↑k : Int)) (Gr.isSl hg) (by kernel_rfl) (by omega) hv), .a 4 16 (indexAddr_arr' (C := cfg m) (t := 50) (sz := 6) (b := sb) (off := 0) (len := n) (o := q * 6) (n := (↑q : Int)) (by kernel_rfl) (by omega) (by omega) (by simp only [Int.toNat_natCast, Nat.zero_add, Nat.mul_one])), .m 4 17 e2, .b 5 2 (beq_false_of_ne h4), .b 7 2 (beq_false_of_ne h5), .b 8 2 (beq_false_of_ne h6), .b 9 2 (beq_iff_eq.2 h7), .m 9 8 (load_ok (C := cfg m) (t := 9) (off := 3) (x := AV.str s) hb (by kernel_rfl)), .b 9 10 (beq_iff_eq.2 h8), .c 10 5 e11, .w 3 1 IntKind.i64 ((↑k : Int) + 1) (wrap_i64' (by omega))] (by kernel_rfl) (by simp [atStep, *]), by assumption, by simp [atStep, *], by simp [atStep, *], by first | assumption | exact .refl _ _⟩
          · exact ⟨hp, _, loopStepS (St.mk (q0_at_l rb pl f k) hp) [.m 2 5 zz0, .m 2 6 (len_sl (C := cfg m) (t := 67) (ts' := []) (fl := fl) (ar := false) (sz := 1) (x := sl) (vs := List.map natAV l) (hp := hp) (Gr.isSl hg) (by kernel_rfl)), .b 2 7 (decide_eq_true ((show (↑k : Int) < (↑(List.map natAV l).length : Int) from (by omega)))), .m 4 3 zz2, .m 4 7 zz1, .m 4 12 zz0, .a 4 14 (indexAddr_sl (C := cfg m) (t := 67) (sz := 1) (x := sl) (n := (↑k : Int)) (Gr.isSl hg) (by kernel_rfl) (by omega) hv), .a 4 16 (indexAddr_arr' (C := cfg m) (t := 50) (sz := 6) (b := sb) (off := 0) (len := n) (o := q * 6) (n := (↑q : Int)) (by kernel_rfl) (by omega) (by omega) (by simp only [Int.toNat_natCast, Nat.zero_add, Nat.mul_one])), .m 4 17 e2, .b 5 2 (beq_false_of_ne h4), .b 7 2 (beq_false_of_ne h5), .b 8 2 (beq_false_of_ne h6), .b 9 2 (beq_iff_eq.2 h7), .m 9 8 (load_ok (C := cfg m) (t := 9) (off := 3) (x := AV.str s) hb (by kernel_rfl)), .b 9 10 (beq_false_of_ne h8), .w 3 1 IntKind.i64 ((↑k : Int) + 1) (wrap_i64' (by omega))] (by kernel_rfl) (by simp [atStep, *]), by assumption, by simp [atStep, *], by simp [atStep, *], by first | assumption | exact .refl _ _⟩
        · exact ⟨hp, _, loopStepS (St.mk (q0_at_l rb pl f k) hp) [.m 2 5 zz0, .m 2 6 (len_sl (C := cfg m) (t := 67) (ts' := []) (fl := fl) (ar := false) (sz := 1) (x := sl) (vs := List.map natAV l) (hp := hp) (Gr.isSl hg) (by kernel_rfl)), .b 2 7 (decide_eq_true ((show (↑k : Int) < (↑(List.map natAV l).length : Int) from (by omega)))), .m 4 3 zz2, .m 4 7 zz1, .m 4 12 zz0, .a 4 14 (indexAddr_sl (C := cfg m) (t := 67) (sz := 1) (x := sl) (n := (↑k : Int)) (Gr.isSl hg) (by kernel_rfl) (by omega) hv), .a 4 16 (indexAddr_arr' (C := cfg m) (t := 50) (sz := 6) (b := sb) (off := 0) (len := n) (o := q * 6) (n := (↑q : Int)) (by kernel_rfl) (by omega) (by omega) (by simp only [Int.toNat_natCast, Nat.zero_add, Nat.mul_one])), .m 4 17 e2, .b 5 2 (beq_false_of_ne h4), .b 7 2 (beq_false_of_ne h5), .b 8 2 (beq_false_of_ne h6), .b 9 2 (beq_false_of_ne h7), .w 3 1 IntKind.i64 ((↑k : Int) + 1) (wrap_i64' (by omega))] (by kernel_rfl) (by simp [atStep, *]), by assumption, by simp [atStep, *], by simp [atStep, *], by first | assumption | exact .refl _ _⟩

theorem at_x {m : Int} {fl rb mb pb n k : Nat} {hp : List Blk} {sl : AV} {s : List UInt8} {pl : Int} {l : List Nat} {f : Bool} (hb : blkCells hp rb = some [.arr 1 mb 0 n, sl, .ptr pb 0, .str s]) (hg : Gr fl 1 hp sl (l.map natAV)) (hi : (l.map natAV).length ≤ k) : LoopI (cfg m) fl fAt (bodyAt (cfg m) fAt 2) 2 ⟨atSt rb pl f k, hp⟩ (.exit 0) ⟨atEnd f, hp⟩ := by
  exact loopEndC (.exit 0) (St.mk ([J, J, J, J, TV.v (AV.bool f)] ++ Jn 64) hp) [.m 2 5 (load_ok (C := cfg m) (t := 67) (off := 1) (x := sl) hb (by kernel_rfl)), .m 2 6 (len_sl (C := cfg m) (t := 67) (ts' := []) (fl := fl) (ar := false) (sz := 1) (x := sl) (vs := List.map natAV l) (hp := hp) (Gr.isSl hg) (by kernel_rfl)), .b 2 7 (decide_eq_false ((show ¬(↑k : Int) < (↑(List.map natAV l).length : Int) from (by omega))))] (by kernel_rfl) (fun h => by cases h) rfl

theorem putF_mem {n : Nat} : ∀ (ks : List Nat) (ms : List Bool) (l : List Nat), (∀ q ∈ l, q < n) → (∀ k ∈ ks, k < n) → ∀ q ∈ (putF ms l ks).2, q < n
  | [], _, _, h, _ => h
  | k :: ks, ms, l, h, hk => by
    unfold putF; split
    · exact putF_mem ks ms l h fun q hq => hk q (by simp [hq])
    · refine putF_mem ks _ _ (fun q hq => ?_) fun q hq => hk q (by simp [hq])
      simp at hq
      rcases hq with hq | rfl
      · exact h q hq
      · exact hk q (by simp)
theorem atStep_len (x : NS) (pl len : Int) (ms : List Bool) (l : List Nat) (f : Bool) : (atStep x pl len ms l f).1.length = ms.length := by
  unfold atStep
  repeat' split
  · rfl
  · exact putF_len _ _ _
  · rfl
theorem atStep_count (x : NS) (pl len : Int) (ms : List Bool) (l : List Nat) (f : Bool) : (atStep x pl len ms l f).2.1.length + (atStep x pl len ms l f).1.count false = l.length + ms.count false := by
  unfold atStep
  repeat' split
  · rfl
  · exact putF_count _ _ _
  · rfl
theorem atStep_mem {n : Nat} (x : NS) (pl len : Int) (ms : List Bool) (l : List Nat) (f : Bool) (h : ∀ q ∈ l, q < n) (hx : ∀ k ∈ x.next, k < n) : ∀ q ∈ (atStep x pl len ms l f).2.1, q < n := by
  unfold atStep
  repeat' split
  · exact h
  · exact putF_mem _ _ _ h hx
  · exact h

/-- a place's states, closed -/
def atF (st : List NS) (pl len : Int) : Nat → Nat → List Bool → List Nat → Bool → List Bool × List Nat × Bool
  | 0, _, ms, l, f => (ms, l, f)
  | fuel + 1, k, ms, l, f => match l[k]? with
    | none => (ms, l, f)
    | some q => match st[q]? with
      | none => (ms, l, f)
      | some x => atF st pl len fuel (k + 1) (atStep x pl len ms l f).1 (atStep x pl len ms l f).2.1 (atStep x pl len ms l f).2.2

/-- states that go on to states of their own -/
def WF (st : List NS) : Prop := st.length < 1000000 ∧ ∀ x ∈ st, x.next.length < 1000000 ∧ ∀ k ∈ x.next, k < st.length

theorem at_loop {m : Int} {fl rb mb pb sb : Nat} {s : List UInt8} {pl : Int} {rest : List AV} {st : List NS} (hw : WF st) (hf : fl ≤ rb) (hf2 : fl ≤ mb) (hne : rb ≠ mb) (hps : pb ≠ rb) (hpm : pb ≠ mb) (hsr : sb ≠ rb) (hsm : sb ≠ mb) :
    ∀ (fuel k : Nat) {hp : List Blk} {sl : AV} {ms : List Bool} {l : List Nat} {f : Bool}, st.length + 1 ≤ fuel + k → k ≤ st.length + 1 → blkCells hp rb = some [.arr 1 mb 0 st.length, sl, .ptr pb 0, .str s] → blkCells hp mb = some (ms.map .bool) → Gr fl 1 hp sl (l.map natAV) → blkCells hp pb = some (.arr 6 sb 0 st.length :: rest) → StOK hp sb st →
      ms.length = st.length → l.length + ms.count false = st.length → (∀ q ∈ l, q < st.length) →
      ∃ hp' sl', LoopI (cfg m) fl fAt (bodyAt (cfg m) fAt 2) 2 ⟨atSt rb pl f k, hp⟩ (.exit 0) ⟨atEnd (atF st pl s.length fuel k ms l f).2.2, hp'⟩ ∧ blkCells hp' rb = some [.arr 1 mb 0 st.length, sl', .ptr pb 0, .str s] ∧ blkCells hp' mb = some ((atF st pl s.length fuel k ms l f).1.map .bool) ∧ Gr fl 1 hp' sl' ((atF st pl s.length fuel k ms l f).2.1.map natAV) ∧ FrC [rb, mb] hp hp'
  | 0, k, hp, sl, ms, l, f, hk, _, hb, hm, hg, hpb, hst, hn, hc, hq => ⟨hp, sl, at_x hb hg (by simp; omega), hb, hm, hg, .refl _ _⟩
  | fuel + 1, k, hp, sl, ms, l, f, hk, hk2, hb, hm, hg, hpb, hst, hn, hc, hq => by
    unfold atF
    cases hlk : l[k]? with
    | none => exact ⟨hp, sl, at_x hb hg (by simp at hlk ⊢; omega), hb, hm, hg, .refl _ _⟩
    | some q =>
      obtain ⟨hkl, hke⟩ := List.getElem?_eq_some_iff.1 hlk
      have hqn : q < st.length := hq q (hke ▸ List.getElem_mem hkl)
      have hx : st[q]? = some st[q] := List.getElem?_eq_getElem hqn
      obtain ⟨w1, w2⟩ := hw.2 st[q] (List.getElem_mem hqn)
      have hw1 := hw.1
      simp only [hx]
      obtain ⟨hp1, sl1, s1, s2, s3, s4, s5⟩ := at_l (m := m) (pl := pl) (f := f) hb hm hg hpb hst hx hqn (k := k) (by simp [hlk]) (by simpa using hkl) hf hf2 hne hw.1 w1 w2 hn hc (by omega)
      have hpb1 : blkCells hp1 pb = some (.arr 6 sb 0 st.length :: rest) := s5.2 _ _ (by simp; exact ⟨hps, hpm⟩) hpb
      have hst1 : StOK hp1 sb st := hst.fr s5 (by simp; exact ⟨hsr, hsm⟩)
      obtain ⟨hp2, sl2, r1, r2, r3, r4, r5⟩ := at_loop (m := m) (pl := pl) hw hf hf2 hne hps hpm hsr hsm fuel (k + 1) (f := (atStep st[q] pl s.length ms l f).2.2) (by omega) (by omega) s2 s3 s4 hpb1 hst1 (by rw [atStep_len]; exact hn) (by rw [atStep_count]; exact hc) (atStep_mem _ _ _ _ _ _ hq w2)
      exact ⟨hp2, sl2, s1 _ _ r1, r2, r3, r4, s5.trans r5⟩

theorem at_lp {m : Int} {fl rb mb pb sb : Nat} {s : List UInt8} {pl : Int} {rest : List AV} {st : List NS} {hp : List Blk} {sl : AV} {ms : List Bool} {l : List Nat} (hb : blkCells hp rb = some [.arr 1 mb 0 st.length, sl, .ptr pb 0, .str s]) (hm : blkCells hp mb = some (ms.map .bool)) (hg : Gr fl 1 hp sl (l.map natAV)) (hpb : blkCells hp pb = some (.arr 6 sb 0 st.length :: rest)) (hst : StOK hp sb st) (hw : WF st) (hf : fl ≤ rb) (hf2 : fl ≤ mb) (hne : rb ≠ mb) (hps : pb ≠ rb) (hpm : pb ≠ mb) (hsr : sb ≠ rb) (hsm : sb ≠ mb)
      (hn : ms.length = st.length) (hc : l.length + ms.count false = st.length) (hq : ∀ q ∈ l, q < st.length) :
      ∃ hp' sl', LoopI (cfg m) fl fAt (bodyAt (cfg m) fAt 2) 2 ⟨atSt rb pl false 0, hp⟩ (.exit 0) ⟨atEnd (atF st pl s.length (st.length + 1) 0 ms l false).2.2, hp'⟩ ∧ blkCells hp' rb = some [.arr 1 mb 0 st.length, sl', .ptr pb 0, .str s] ∧ blkCells hp' mb = some ((atF st pl s.length (st.length + 1) 0 ms l false).1.map .bool) ∧ Gr fl 1 hp' sl' ((atF st pl s.length (st.length + 1) 0 ms l false).2.1.map natAV) ∧ FrC [rb, mb] hp hp' :=
  at_loop hw hf hf2 hne hps hpm hsr hsm (st.length + 1) 0 (by omega) (by omega) hb hm hg hpb hst hn hc hq

theorem at_ok {m : Int} {fl rb mb pb sb : Nat} {s : List UInt8} {pl : Int} {rest : List AV} {st : List NS} {hp : List Blk} {sl : AV} {ms : List Bool} {l : List Nat} (hb : blkCells hp rb = some [.arr 1 mb 0 st.length, sl, .ptr pb 0, .str s]) (hm : blkCells hp mb = some (ms.map .bool)) (hg : Gr fl 1 hp sl (l.map natAV)) (hpb : blkCells hp pb = some (.arr 6 sb 0 st.length :: rest)) (hst : StOK hp sb st) (hw : WF st) (hf : fl ≤ rb) (hf2 : fl ≤ mb) (hne : rb ≠ mb) (hps : pb ≠ rb) (hpm : pb ≠ mb) (hsr : sb ≠ rb) (hsm : sb ≠ mb) (hn : ms.length = st.length) (hc : l.length + ms.count false = st.length) (hq : ∀ q ∈ l, q < st.length) : ∃ hp' sl', evI (cfg m) fl fAt [.ptr rb 0, .int .i64 pl] hp = some (.bool (atF st pl s.length (st.length + 1) 0 ms l false).2.2, hp') ∧ blkCells hp' rb = some [.arr 1 mb 0 st.length, sl', .ptr pb 0, .str s] ∧ blkCells hp' mb = some ((atF st pl s.length (st.length + 1) 0 ms l false).1.map .bool) ∧ Gr fl 1 hp' sl' ((atF st pl s.length (st.length + 1) 0 ms l false).2.1.map natAV) ∧ FrC [rb, mb] hp hp' := by
  obtain ⟨hp'1, sl'2, e3, h4, h5, h6, h7⟩ := (at_lp (m := m) (pl := pl) hb hm hg hpb hst hw hf hf2 hne hps hpm hsr hsm hn hc hq)
  rcases bcases ((atF st pl (↑s.length : Int) (st.length + 1) 0 ms l false).snd.snd) with h8 | h8
  · exact ⟨hp'1, _, evX (AV.bool true) (hp'1) [.l 2 e3, .b 11 0 h8] (by kernel_rfl) (tlK (by kernel_rfl) rfl) (by simp [*]), by assumption, by assumption, by assumption, by assumption⟩
  · exact ⟨hp'1, _, evX (AV.bool false) (hp'1) [.l 2 e3, .b 11 0 h8] (by kernel_rfl) (tlK (by kernel_rfl) rfl) (by simp [*]), by assumption, by assumption, by assumption, by assumption⟩
abbrev stSt (rb:Nat) (c:UInt8) (x:AV) (n i:Nat):List TV:=[.v (.ptr rb 0), .v (AU c.toNat),J,J,J,J,J,J,J,J,J,J,J,J,J,J,J,J,J,J,J,J,J,J,J,J,J, .v x, .v (AI n), .v (AI i)]++List.replicate 30 J
abbrev stEnd:List TV:=List.replicate 60 J
def stepQ (x:NS) (c:UInt8) (ms:List Bool) (l:List Nat):List Bool × List Nat:=if x.kind=1∧x.set.has c.toNat=true then putF ms l x.next else (ms,l)
def stepF (st:List NS) (c:UInt8):List Nat→List Bool→List Nat→List Bool × List Nat
 | [],ms,l=>(ms,l)
 | q::qs,ms,l=>match st[q]? with
  | none=>(ms,l)
  | some x=>stepF st c qs (stepQ x c ms l).1 (stepQ x c ms l).2
theorem has_ok' {m:Int} {fl:Nat} {hp:List Blk} {w:W4} {x:UInt8}:evI (cfg m) fl fHas [.agg [wAV w.a,wAV w.b,wAV w.c,wAV w.d], .int .u8 x.toNat] hp=some (.bool (w.has x.toNat),hp):=has_ok
theorem st_l {m:Int} {fl rb mb pb sb n k q nv:Nat} {hp:List Blk} {sl slo:AV} {s:List UInt8} {c:UInt8} {ms:List Bool} {l:List Nat} {vs rest:List AV} {st:List NS} {x:NS} (hb:blkCells hp rb=some [.arr 1 mb 0 n,sl, .ptr pb 0, .str s]) (hm:blkCells hp mb=some (ms.map .bool)) (hg:Gr fl 1 hp sl (l.map natAV)) (hpb:blkCells hp pb=some (.arr 6 sb 0 n::rest)) (hst:StOK hp sb st) (hx:st[q]?=some x) (hq:q < n) (ho:IsSl 1 slo vs) (hv:vs[k]?=some (natAV q)) (hi:k < nv) (hnv:nv < 1000000) (hf:fl≤rb) (hf2:fl≤mb) (hne:rb≠mb) (hl:n < 1000000) (hvl:x.next.length < 1000000) (hk:∀ k ∈ x.next,k < n) (hn:ms.length=n) (hc:l.length + ms.count false=n):∃ hp' sl',LoopS (cfg m) fl fStep (bodyAt (cfg m) fStep 3) 3 ⟨stSt rb c slo nv k,hp⟩ ⟨stSt rb c slo nv (k + 1),hp'⟩∧blkCells hp' rb=some [.arr 1 mb 0 n,sl', .ptr pb 0, .str s]∧blkCells hp' mb=some ((stepQ x c ms l).1.map .bool)∧Gr fl 1 hp' sl' ((stepQ x c ms l).2.map natAV)∧FrC [rb,mb] hp hp':=by
 have zz1:=load_ok (C:=cfg m) (t:=25) (off:=2) (x:=AV.ptr pb 0) hb (by kernel_rfl)
 have zz0:=load_ok (C:=cfg m) (t:=50) (off:=0) (x:=AV.arr 6 sb 0 n) hpb (by kernel_rfl)
 obtain ⟨nx1,e2,h3⟩:=(load_state (m:=m) hst hx)
 by_cases h4:x.kind=1
 ·rcases bcases (x.set.has c.toNat) with h5 | h5
  ·obtain ⟨hp'6,sl'7,e8,h9,h10,h11,h12⟩:=(N.put_ok (m:=m) hb hm hg h3 hf hf2 hne hl hvl hk hn hc)
   exact ⟨hp'6,_,loopStepS (St.mk [TV.v (AV.ptr rb 0),TV.v (AU (↑c.toNat:Int)),J,J,J,J,J,J,J,J,J,J,J,J,J,J,J,J,J,J,J,J,J,J,J,J,J,TV.v slo,TV.v (AI nv),TV.v (AI ((↑k:Int) + 1)),J,J,J,J,J,J,J,J,J,J,J,J,J,J,J,J,J,J,J,J,J,J,J,J,J,J,J,J,J,J] hp'6) [.b 3 0 (decide_eq_true ((show (↑k:Int) < (↑nv:Int) from (by omega)))), .a 4 0 (indexAddr_sl (C:=cfg m) (t:=67) (n:=(↑k:Int)) ho (by kernel_rfl) (by omega) hv), .m 5 3 zz1, .m 5 7 zz0, .a 5 9 (indexAddr_arr' (C:=cfg m) (t:=50) (sz:=6) (b:=sb) (off:=0) (len:=n) (o:=q * 6) (n:=(↑q:Int)) (by kernel_rfl) (by omega) (by omega) (by simp only [Int.toNat_natCast,Nat.zero_add,Nat.mul_one])), .m 5 10 e2, .b 6 2 (beq_iff_eq.2 h4), .cb 6 7 (has_ok' (m:=m) (fl:=fl) (hp:=hp) (w:=x.set) (x:=c)) h5, .c 7 5 e8, .w 8 0 IntKind.i64 ((↑k:Int) + 1) (wrap_i64' (by omega))] (by kernel_rfl) (by simp [stepQ, *]),by assumption,by simp [stepQ, *],by simp [stepQ, *],by first | assumption | exact .refl _ _⟩
  ·exact ⟨hp,_,loopStepS (St.mk [TV.v (AV.ptr rb 0),TV.v (AU (↑c.toNat:Int)),J,J,J,J,J,J,J,J,J,J,J,J,J,J,J,J,J,J,J,J,J,J,J,J,J,TV.v slo,TV.v (AI nv),TV.v (AI ((↑k:Int) + 1)),J,J,J,J,J,J,J,J,J,J,J,J,J,J,J,J,J,J,J,J,J,J,J,J,J,J,J,J,J,J] hp) [.b 3 0 (decide_eq_true ((show (↑k:Int) < (↑nv:Int) from (by omega)))), .a 4 0 (indexAddr_sl (C:=cfg m) (t:=67) (n:=(↑k:Int)) ho (by kernel_rfl) (by omega) hv), .m 5 3 zz1, .m 5 7 zz0, .a 5 9 (indexAddr_arr' (C:=cfg m) (t:=50) (sz:=6) (b:=sb) (off:=0) (len:=n) (o:=q * 6) (n:=(↑q:Int)) (by kernel_rfl) (by omega) (by omega) (by simp only [Int.toNat_natCast,Nat.zero_add,Nat.mul_one])), .m 5 10 e2, .b 6 2 (beq_iff_eq.2 h4), .cb 6 7 (has_ok' (m:=m) (fl:=fl) (hp:=hp) (w:=x.set) (x:=c)) h5, .w 8 0 IntKind.i64 ((↑k:Int) + 1) (wrap_i64' (by omega))] (by kernel_rfl) (by simp [stepQ, *]),by assumption,by simp [stepQ, *],by simp [stepQ, *],by first | assumption | exact .refl _ _⟩
 ·exact ⟨hp,_,loopStepS (St.mk [TV.v (AV.ptr rb 0),TV.v (AU (↑c.toNat:Int)),J,J,J,J,J,J,J,J,J,J,J,J,J,J,J,J,J,J,J,J,J,J,J,J,J,TV.v slo,TV.v (AI nv),TV.v (AI ((↑k:Int) + 1)),J,J,J,J,J,J,J,J,J,J,J,J,J,J,J,J,J,J,J,J,J,J,J,J,J,J,J,J,J,J] hp) [.b 3 0 (decide_eq_true ((show (↑k:Int) < (↑nv:Int) from (by omega)))), .a 4 0 (indexAddr_sl (C:=cfg m) (t:=67) (n:=(↑k:Int)) ho (by kernel_rfl) (by omega) hv), .m 5 3 zz1, .m 5 7 zz0, .a 5 9 (indexAddr_arr' (C:=cfg m) (t:=50) (sz:=6) (b:=sb) (off:=0) (len:=n) (o:=q * 6) (n:=(↑q:Int)) (by kernel_rfl) (by omega) (by omega) (by simp only [Int.toNat_natCast,Nat.zero_add,Nat.mul_one])), .m 5 10 e2, .b 6 2 (beq_false_of_ne h4), .w 8 0 IntKind.i64 ((↑k:Int) + 1) (wrap_i64' (by omega))] (by kernel_rfl) (by simp [stepQ, *]),by assumption,by simp [stepQ, *],by simp [stepQ, *],by first | assumption | exact .refl _ _⟩
theorem st_x {m:Int} {fl rb n k:Nat} {hp:List Blk} {x:AV} {c:UInt8} (hi:n≤k):LoopI (cfg m) fl fStep (bodyAt (cfg m) fStep 3) 3 ⟨stSt rb c x n k,hp⟩ (.exit 0) ⟨stEnd,hp⟩:=by
 exact loopEndC (.exit 0) (St.mk ([J]++Jn 59) hp) [.b 3 0 (decide_eq_false ((show ¬(↑k:Int) < (↑n:Int) from (by omega))))] (by kernel_rfl) (fun h=>by cases h) rfl
theorem stepQ_len (x:NS) (c:UInt8) (ms:List Bool) (l:List Nat):(stepQ x c ms l).1.length=ms.length:=by
 unfold stepQ
 split
 ·exact putF_len _ _ _
 ·rfl
theorem stepQ_count (x:NS) (c:UInt8) (ms:List Bool) (l:List Nat):(stepQ x c ms l).2.length + (stepQ x c ms l).1.count false=l.length + ms.count false:=by
 unfold stepQ
 split
 ·exact putF_count _ _ _
 ·rfl
theorem stepQ_mem {n:Nat} (x:NS) (c:UInt8) (ms:List Bool) (l:List Nat) (h:∀ q ∈ l,q < n) (hx:∀ k ∈ x.next,k < n):∀ q ∈ (stepQ x c ms l).2,q < n:=by
 unfold stepQ
 split
 ·exact putF_mem _ _ _ h hx
 ·exact h
theorem st_loop {m:Int} {fl rb mb pb sb nv:Nat} {s:List UInt8} {c:UInt8} {rest vs:List AV} {slo:AV} {st:List NS} (hw:WF st) (ho:IsSl 1 slo vs) (hnv:nv=vs.length) (hnv2:nv < 1000000) (hf:fl≤rb) (hf2:fl≤mb) (hne:rb≠mb) (hps:pb≠rb) (hpm:pb≠mb) (hsr:sb≠rb) (hsm:sb≠mb) :
  ∀ (qs:List Nat) (k:Nat) {hp:List Blk} {sl:AV} {ms:List Bool} {l:List Nat},vs.drop k=qs.map natAV→(∀ q ∈ qs,q < st.length)→blkCells hp rb=some [.arr 1 mb 0 st.length,sl, .ptr pb 0, .str s]→blkCells hp mb=some (ms.map .bool)→Gr fl 1 hp sl (l.map natAV)→blkCells hp pb=some (.arr 6 sb 0 st.length::rest)→StOK hp sb st →
   ms.length=st.length→l.length + ms.count false=st.length →
   ∃ hp' sl',LoopI (cfg m) fl fStep (bodyAt (cfg m) fStep 3) 3 ⟨stSt rb c slo nv k,hp⟩ (.exit 0) ⟨stEnd,hp'⟩∧blkCells hp' rb=some [.arr 1 mb 0 st.length,sl', .ptr pb 0, .str s]∧blkCells hp' mb=some ((stepF st c qs ms l).1.map .bool)∧Gr fl 1 hp' sl' ((stepF st c qs ms l).2.map natAV)∧FrC [rb,mb] hp hp'
 | [],k,hp,sl,ms,l,hd,_,hb,hm,hg,hpb,hst,hn,hc=>by
  have:vs.length≤k:=by simpa using hd
  exact ⟨hp,sl,st_x (by omega),hb,hm,hg, .refl _ _⟩
 | q::qs,k,hp,sl,ms,l,hd,hq,hb,hm,hg,hpb,hst,hn,hc=>by
  have h1:vs[k]?=some (natAV q):=by
   have:=congrArg (·[0]?) hd
   simpa using this
  have hi:k < vs.length:=(List.getElem?_eq_some_iff.1 h1).1
  have hd':vs.drop (k + 1)=qs.map natAV:=by
   rw [← List.drop_drop,hd];rfl
  have hqn:q < st.length:=hq q (by simp)
  have hx:st[q]?=some st[q]:=List.getElem?_eq_getElem hqn
  obtain ⟨w1,w2⟩:=hw.2 st[q] (List.getElem_mem hqn)
  simp only [stepF,hx]
  obtain ⟨hp1,sl1,s1,s2,s3,s4,s5⟩:=st_l (m:=m) (c:=c) (nv:=nv) hb hm hg hpb hst hx hqn ho h1 (by omega) hnv2 hf hf2 hne hw.1 w1 w2 hn hc
  have hpb1:blkCells hp1 pb=some (.arr 6 sb 0 st.length::rest):=s5.2 _ _ (by simp;exact ⟨hps,hpm⟩) hpb
  have hst1:StOK hp1 sb st:=hst.fr s5 (by simp;exact ⟨hsr,hsm⟩)
  obtain ⟨hp2,sl2,r1,r2,r3,r4,r5⟩:=st_loop (m:=m) (c:=c) hw ho hnv hnv2 hf hf2 hne hps hpm hsr hsm qs (k + 1) hd' (fun x hx=>hq x (by simp [hx])) s2 s3 s4 hpb1 hst1 (by rw [stepQ_len];exact hn) (by rw [stepQ_count];exact hc)
  exact ⟨hp2,sl2,s1 _ _ r1,r2,r3,r4,s5.trans r5⟩
theorem st_lp {m:Int} {fl rb mb pb sb nv:Nat} {s:List UInt8} {c:UInt8} {rest:List AV} {slo sl:AV} {st:List NS} {qs:List Nat} {hp:List Blk} {ms:List Bool} {l:List Nat} (hb:blkCells hp rb=some [.arr 1 mb 0 st.length,sl, .ptr pb 0, .str s]) (hm:blkCells hp mb=some (ms.map .bool)) (hg:Gr fl 1 hp sl (l.map natAV)) (hpb:blkCells hp pb=some (.arr 6 sb 0 st.length::rest)) (hst:StOK hp sb st) (hw:WF st) (ho:IsSl 1 slo (qs.map natAV)) (hnv:nv=(qs.map natAV).length) (hq:∀ q ∈ qs,q < st.length) (hql:qs.length≤st.length)
  (hf:fl≤rb) (hf2:fl≤mb) (hne:rb≠mb) (hps:pb≠rb) (hpm:pb≠mb) (hsr:sb≠rb) (hsm:sb≠mb) (hn:ms.length=st.length) (hc:l.length + ms.count false=st.length) :
   ∃ hp' sl',LoopI (cfg m) fl fStep (bodyAt (cfg m) fStep 3) 3 ⟨stSt rb c slo nv 0,hp⟩ (.exit 0) ⟨stEnd,hp'⟩∧blkCells hp' rb=some [.arr 1 mb 0 st.length,sl', .ptr pb 0, .str s]∧blkCells hp' mb=some ((stepF st c qs ms l).1.map .bool)∧Gr fl 1 hp' sl' ((stepF st c qs ms l).2.map natAV)∧FrC [rb,mb] hp hp' :=
 st_loop hw ho (by simpa using hnv) (by simp at hnv;have:=hw.1;omega) hf hf2 hne hps hpm hsr hsm qs 0 rfl hq hb hm hg hpb hst hn hc
theorem gr_nil {fl:Nat} {hp:List Blk}:Gr fl 1 hp .nilS (([]:List Nat).map natAV) := .nil _ _ _
theorem StOK.set {hp:List Blk} {sb b:Nat} {x:Blk} {st:List NS} (h:StOK hp sb st) (hn:b≠sb):StOK (setAt hp b x) sb st:=by
 obtain ⟨cs,h1,h2⟩:=h
 exact ⟨cs,blk_set_ne hn h1,h2⟩
theorem StOK.app {hp r:List Blk} {sb:Nat} {st:List NS} (h:StOK hp sb st):StOK (hp++r) sb st:=by
 obtain ⟨cs,h1,h2⟩:=h
 exact ⟨cs,blk_app h1,h2⟩
theorem count0 {n:Nat}:([]:List Nat).length + (List.replicate n false).count false=n:=by simp
theorem FrC.step {rb:Nat} {hp hp':List Blk} {x y:Blk} (h:FrC [rb,hp.length] (setAt hp rb x++[y]) hp'):FrC [rb] hp hp':=by
 refine ⟨Nat.le_trans (by simp [setAt_length]) h.1,fun b cs hb hc => ?_⟩
 have hlt:=blk_lt hc
 exact h.2 b cs (by simp at hb ⊢;omega) (blk_app (blk_set_ne (by simp at hb;omega) hc))
abbrev q0_step_ok (hp:List Blk) (st:List NS) (pb:Nat) (s:List UInt8):List AV:=[AV.arr 1 hp.length 0 st.length,AV.nilS,AV.ptr pb 0,AV.str s]
abbrev q1_step_ok (st:List NS):List Blk:=[BC (List.map AV.bool (List.replicate st.length false))]
theorem step_ok {m:Int} {fl rb mb pb sb:Nat} {s:List UInt8} {c:UInt8} {rest:List AV} {sl:AV} {st:List NS} {hp:List Blk} {l:List Nat} (hb:blkCells hp rb=some [.arr 1 mb 0 st.length,sl, .ptr pb 0, .str s]) (hg:Gr fl 1 hp sl (l.map natAV)) (hpb:blkCells hp pb=some (.arr 6 sb 0 st.length::rest)) (hst:StOK hp sb st) (hw:WF st) (hw1:st.length≤1000000) (hq:∀ q ∈ l,q < st.length) (hql:l.length≤st.length) (hf:fl≤rb) (hf3:fl≤hp.length) (hps:pb≠rb) (hsr:sb≠rb) (hsl:sb < hp.length):∃ hp' sl',evI (cfg m) fl fStep [.ptr rb 0, .int .u8 c.toNat] hp=some (.tup [],hp')∧blkCells hp' rb=some [.arr 1 hp.length 0 st.length,sl', .ptr pb 0, .str s]∧blkCells hp' hp.length=some ((stepF st c l (List.replicate st.length false) []).1.map .bool)∧Gr fl 1 hp' sl' ((stepF st c l (List.replicate st.length false) []).2.map natAV)∧FrC [rb] hp hp':=by
 obtain ⟨hp'1,sl'2,e3,h4,h5,h6,h7⟩:=(st_lp (m:=m) (nv:=(List.map natAV l).length) (s:=s) (c:=c) (rest:=rest) (slo:=sl) (sl:=AV.nilS) (hp:=setAt hp rb (BC (q0_step_ok hp st pb s))++(q1_step_ok st)) (ms:=List.replicate st.length false) (l:=[]) (blk_app (blk_set (blk_lt hb))) (blk_last' (by simp only [setAt_length])) (gr_nil (fl:=fl) (hp:=setAt hp rb (BC (q0_step_ok hp st pb s))++(q1_step_ok st))) (blk_app (blk_set_ne (by omega) hpb)) (StOK.app (hp:=setAt hp rb (BC (q0_step_ok hp st pb s))) (r:=(q1_step_ok st)) (sb:=sb) (st:=st) (StOK.set (b:=rb) (x:=BC (q0_step_ok hp st pb s)) hst (by omega))) hw (Gr.isSl hg) rfl hq hql hf hf3 (by have:=blk_lt hb;have:=blk_lt hpb;omega) hps (by have:=blk_lt hb;have:=blk_lt hpb;omega) hsr (by omega) (by simp_all;done) (count0 (n:=st.length)))
 exact ⟨hp'1,_,evX (AV.tup []) (hp'1) [.m 0 4 (load_ok (C:=cfg m) (t:=67) (off:=1) (x:=sl) hb (by kernel_rfl)), .m 1 4 (load_ok (C:=cfg m) (t:=25) (off:=2) (x:=AV.ptr pb 0) hb (by kernel_rfl)), .m 1 8 (load_ok (C:=cfg m) (t:=50) (off:=0) (x:=AV.arr 6 sb 0 st.length) hpb (by kernel_rfl)), .m 1 10 (mkSl_bools (C:=cfg m) (t:=66) (hp:=hp) (k:=IntKind.i64) (k':=IntKind.i64) (by kernel_rfl) hw1), .t 1 14 (store_ok (C:=cfg m) (t:=69) (off:=0) (hp:=hp++(q1_step_ok st)) (hp':=setAt hp rb (BC (q0_step_ok hp st pb s))++(q1_step_ok st)) (cs:=[AV.arr 1 mb 0 st.length,sl,AV.ptr pb 0,AV.str s]) (cs':=(q0_step_ok hp st pb s)) (x:=AV.agg [AV.arr 1 hp.length 0 st.length,AV.nilS]) (blk_app hb) (by kernel_rfl) hf (setAt_app (blk_lt hb))), .m 2 1 (len_sl (C:=cfg m) (t:=67) (ts':=[]) (fl:=fl) (ar:=false) (sz:=1) (x:=sl) (vs:=List.map natAV l) (hp:=setAt hp rb (BC (q0_step_ok hp st pb s))++(q1_step_ok st)) (Gr.isSl hg) (by kernel_rfl)), .l 3 e3] (by kernel_rfl) (tlK (by kernel_rfl) rfl) rfl,by assumption,by assumption,by assumption,by exact FrC.step ‹FrC [_,_] _ _›⟩
abbrev mSt (pb rb:Nat) (s:List UInt8) (w:Bool) (pl:Nat):List TV:=[.v (.ptr pb 0), .v (.str s), .v (.bool w),J,J,J,J, .v (.ptr rb 0), .v (AI pl)]++List.replicate 53 J
abbrev mEnd (r:Bool):List TV:=[J,J,J,J,J,J, .v (.bool r)]++List.replicate 55 J
abbrev progB (sb n:Nat) (x1 x2 x3 x4 x5 x6 x7 x8:AV) (first:Nat):List AV:=[.arr 6 sb 0 n,x1,x2,x3,x4,x5,x6,x7,x8,AI first]
def mPut (first:Nat) (w:Bool) (pl:Nat) (ms:List Bool) (l:List Nat):List Bool × List Nat:=if pl=0∨w=false then putF ms l [first] else (ms,l)
mutual
def mF (st:List NS) (first:Nat) (w:Bool) (len:Nat) (cs:List UInt8) (pl:Nat) (ms:List Bool) (l:List Nat):Bool:=mG st first w len (mPut first w pl ms l) cs pl
termination_by (cs.length,1)
def mG (st:List NS) (first:Nat) (w:Bool) (len:Nat) (r:List Bool × List Nat) (cs:List UInt8) (pl:Nat):Bool :=
  let a:=atF st pl len (st.length + 1) 0 r.1 r.2 false
  if a.2.2=true∧(w=false∨pl=len) then true
  else match cs with
   | []=>false
   | c::cs=>mF st first w len cs (pl + 1) (stepF st c a.2.1 (List.replicate st.length false) []).1 (stepF st c a.2.1 (List.replicate st.length false) []).2
termination_by (cs.length,0)
end
theorem hd_mem {n first:Nat} (h:first < n):∀ k ∈ [first],k < n:=by simp;exact h
theorem isSl_first {first:Nat}:IsSl 1 (.lit 1 .exact [AI first]) (([first]:List Nat).map natAV) := .lit _ _ _
theorem one_lt {first:Nat}:([first]:List Nat).length < 1000000:=by simp
theorem putF_len' {n:Nat} {ks:List Nat} {ms:List Bool} {l:List Nat} (h:ms.length=n):(putF ms l ks).1.length=n:=by rw [putF_len];exact h
theorem putF_count' {n:Nat} {ks:List Nat} {ms:List Bool} {l:List Nat} (h:l.length + ms.count false=n):(putF ms l ks).2.length + (putF ms l ks).1.count false=n:=by rw [putF_count];exact h
theorem putF_mem1 {n first:Nat} {ms:List Bool} {l:List Nat} (h:∀ q ∈ l,q < n) (hf:first < n):∀ q ∈ (putF ms l [first]).2,q < n:=putF_mem _ _ _ h (hd_mem hf)
abbrev q0_m_e1:List TV:=[J,J,J,J,J,J,TV.v (AV.bool true),J,J,J,J,J,J,J,J,J,J,J,J,J,J,J,J,J,J,J,J,J,J,J,J,J,J,J,J,J,J,J,J,J,J,J,J,J,J,J,J,J,J,J,J,J,J,J,J,J,J,J,J,J,J,J]
theorem m_e1 {m:Int} {fl pb rb mb sb first pl:Nat} {hp:List Blk} {s:List UInt8} {w:Bool} {st:List NS} {x1 x2 x3 x4 x5 x6 x7 x8 sl:AV} {ms:List Bool} {l:List Nat} (hb:blkCells hp rb=some [.arr 1 mb 0 st.length,sl, .ptr pb 0, .str s]) (hm:blkCells hp mb=some (ms.map .bool)) (hg:Gr fl 1 hp sl (l.map natAV)) (hpb:blkCells hp pb=some (progB sb st.length x1 x2 x3 x4 x5 x6 x7 x8 first)) (hst:StOK hp sb st) (hw:WF st) (hw1:st.length < 1000000) (hfi:first < st.length) (hp0:(pl:Int)=0) (hf:fl≤rb) (hf2:fl≤mb) (hne:rb≠mb) (hps:pb≠rb) (hpm:pb≠mb) (hsr:sb≠rb) (hsm:sb≠mb) (hn:ms.length=st.length) (hc:l.length + ms.count false=st.length) (hq:∀ q ∈ l,q < st.length) (hpl:pl=s.length) (hpt:(pl=s.length)=True) (hsl:sb < hp.length):∃ hp',LoopI (cfg m) fl fMatches (bodyAt (cfg m) fMatches 4) 4 ⟨mSt pb rb s w pl,hp⟩ .ret ⟨mEnd (mG st first w s.length (putF ms l [first]) [] pl),hp'⟩∧True:=by
 have zz0:=load_ok (C:=cfg m) (t:=3) (off:=9) (x:=AI first) hpb (by kernel_rfl)
 obtain ⟨hp'1,sl'2,e3,h4,h5,h6,h7⟩:=(N.put_ok (m:=m) (x:=AV.lit 1 Own.exact [AI first]) (ks:=[first]) hb hm hg (isSl_first (first:=first)) hf hf2 hne hw1 (one_lt (first:=first)) (hd_mem hfi) hn hc)
 obtain ⟨hp'8,sl'9,e10,h11,h12,h13,h14⟩:=(at_ok (m:=m) (pl:=(↑pl:Int)) (rest:=[x1,x2,x3,x4,x5,x6,x7,x8,AI first]) h4 h5 h6 (frC_blk h7 hpb (by simp_all;done)) (StOK.fr h7 hst (by simp_all;done)) hw hf hf2 hne hps hpm hsr hsm (putF_len' (ks:=[first]) (l:=l) hn) (putF_count' (ks:=[first]) hc) (putF_mem1 (ms:=ms) hq hfi))
 rcases bcases ((atF st (↑pl:Int) (↑s.length:Int) (st.length + 1) 0 (putF ms l [first]).fst (putF ms l [first]).snd false).snd.snd) with h15 | h15
 ·rcases bcases (w) with h16 | h16
  ·exact ⟨hp'8,loopEndC .ret (St.mk q0_m_e1 hp'8) [.b 4 1 (beq_iff_eq.2 (hp0)), .m 5 6 zz0, .c 5 8 e3, .cb 6 2 e10 h15, .b 7 2 h16, .b 7 8 (beq_iff_eq.2 ((show (↑pl:Int)=(↑s.length:Int) from (by omega))))] (by kernel_rfl) (fun h=>by cases h) (by rw [mG];simp [*, -hp0, -hpl]),trivial⟩
  ·exact ⟨hp'8,loopEndC .ret (St.mk q0_m_e1 hp'8) [.b 4 1 (beq_iff_eq.2 (hp0)), .m 5 6 zz0, .c 5 8 e3, .cb 6 2 e10 h15, .b 7 2 h16] (by kernel_rfl) (fun h=>by cases h) (by rw [mG];simp [*, -hp0, -hpl]),trivial⟩
 ·exact ⟨hp'8,loopEndC .ret (St.mk [J,J,J,J,J,J,TV.v (AV.bool false),J,J,J,J,J,J,J,J,J,J,J,J,J,J,J,J,J,J,J,J,J,J,J,J,J,J,J,J,J,J,J,J,J,J,J,J,J,J,J,J,J,J,J,J,J,J,J,J,J,J,J,J,J,J,J] hp'8) [.b 4 1 (beq_iff_eq.2 (hp0)), .m 5 6 zz0, .c 5 8 e3, .cb 6 2 e10 h15, .b 9 3 (beq_iff_eq.2 ((show (↑pl:Int)=(↑s.length:Int) from (by omega))))] (by kernel_rfl) (fun h=>by cases h) (by rw [mG];simp [*, -hp0, -hpl]),trivial⟩
theorem m_e2 {m:Int} {fl pb rb mb sb first pl:Nat} {hp:List Blk} {s:List UInt8} {w:Bool} {st:List NS} {x1 x2 x3 x4 x5 x6 x7 x8 sl:AV} {ms:List Bool} {l:List Nat} (hb:blkCells hp rb=some [.arr 1 mb 0 st.length,sl, .ptr pb 0, .str s]) (hm:blkCells hp mb=some (ms.map .bool)) (hg:Gr fl 1 hp sl (l.map natAV)) (hpb:blkCells hp pb=some (progB sb st.length x1 x2 x3 x4 x5 x6 x7 x8 first)) (hst:StOK hp sb st) (hw:WF st) (hw1:st.length < 1000000) (hfi:first < st.length) (hp0:¬ (pl:Int)=0) (hww:w=false) (hf:fl≤rb) (hf2:fl≤mb) (hne:rb≠mb) (hps:pb≠rb) (hpm:pb≠mb) (hsr:sb≠rb) (hsm:sb≠mb) (hn:ms.length=st.length) (hc:l.length + ms.count false=st.length) (hq:∀ q ∈ l,q < st.length) (hpl:pl=s.length) (hpt:(pl=s.length)=True) (hsl:sb < hp.length):∃ hp',LoopI (cfg m) fl fMatches (bodyAt (cfg m) fMatches 4) 4 ⟨mSt pb rb s w pl,hp⟩ .ret ⟨mEnd (mG st first w s.length (putF ms l [first]) [] pl),hp'⟩∧True:=by
 obtain ⟨hp'1,sl'2,e3,h4,h5,h6,h7⟩:=(N.put_ok (m:=m) (x:=AV.lit 1 Own.exact [AI first]) (ks:=[first]) hb hm hg (isSl_first (first:=first)) hf hf2 hne hw1 (one_lt (first:=first)) (hd_mem hfi) hn hc)
 obtain ⟨hp'8,sl'9,e10,h11,h12,h13,h14⟩:=(at_ok (m:=m) (pl:=(↑pl:Int)) (rest:=[x1,x2,x3,x4,x5,x6,x7,x8,AI first]) h4 h5 h6 (frC_blk h7 hpb (by simp_all;done)) (StOK.fr h7 hst (by simp_all;done)) hw hf hf2 hne hps hpm hsr hsm (putF_len' (ks:=[first]) (l:=l) hn) (putF_count' (ks:=[first]) hc) (putF_mem1 (ms:=ms) hq hfi))
 rcases bcases ((atF st (↑pl:Int) (↑s.length:Int) (st.length + 1) 0 (putF ms l [first]).fst (putF ms l [first]).snd false).snd.snd) with h15 | h15
 ·exact ⟨hp'8,loopEndC .ret (St.mk [J,J,J,J,J,J,TV.v (AV.bool true),J,J,J,J,J,J,J,J,J,J,J,J,J,J,J,J,J,J,J,J,J,J,J,J,J,J,J,J,J,J,J,J,J,J,J,J,J,J,J,J,J,J,J,J,J,J,J,J,J,J,J,J,J,J,J] hp'8) [.b 4 1 (beq_false_of_ne (hp0)), .b 4 3 hww, .m 5 6 (load_ok (C:=cfg m) (t:=3) (off:=9) (x:=AI first) hpb (by kernel_rfl)), .c 5 8 e3, .cb 6 2 e10 h15, .b 7 2 hww] (by kernel_rfl) (fun h=>by cases h) (by rw [mG];simp [*, -hp0, -hpl]),trivial⟩
 ·exact ⟨hp'8,loopEndC .ret (St.mk [J,J,J,J,J,J,TV.v (AV.bool false),J,J,J,J,J,J,J,J,J,J,J,J,J,J,J,J,J,J,J,J,J,J,J,J,J,J,J,J,J,J,J,J,J,J,J,J,J,J,J,J,J,J,J,J,J,J,J,J,J,J,J,J,J,J,J] hp'8) [.b 4 1 (beq_false_of_ne (hp0)), .b 4 3 hww, .m 5 6 (load_ok (C:=cfg m) (t:=3) (off:=9) (x:=AI first) hpb (by kernel_rfl)), .c 5 8 e3, .cb 6 2 e10 h15, .b 9 3 (beq_iff_eq.2 ((show (↑pl:Int)=(↑s.length:Int) from (by omega))))] (by kernel_rfl) (fun h=>by cases h) (by rw [mG];simp [*, -hp0, -hpl]),trivial⟩
theorem m_e3 {m:Int} {fl pb rb mb sb first pl:Nat} {hp:List Blk} {s:List UInt8} {w:Bool} {st:List NS} {x1 x2 x3 x4 x5 x6 x7 x8 sl:AV} {ms:List Bool} {l:List Nat} (hb:blkCells hp rb=some [.arr 1 mb 0 st.length,sl, .ptr pb 0, .str s]) (hm:blkCells hp mb=some (ms.map .bool)) (hg:Gr fl 1 hp sl (l.map natAV)) (hpb:blkCells hp pb=some (progB sb st.length x1 x2 x3 x4 x5 x6 x7 x8 first)) (hst:StOK hp sb st) (hw:WF st) (hw1:st.length < 1000000) (hfi:first < st.length) (hp0:¬ (pl:Int)=0) (hww:w=true) (hf:fl≤rb) (hf2:fl≤mb) (hne:rb≠mb) (hps:pb≠rb) (hpm:pb≠mb) (hsr:sb≠rb) (hsm:sb≠mb) (hn:ms.length=st.length) (hc:l.length + ms.count false=st.length) (hq:∀ q ∈ l,q < st.length) (hpl:pl=s.length) (hpt:(pl=s.length)=True) (hsl:sb < hp.length):∃ hp',LoopI (cfg m) fl fMatches (bodyAt (cfg m) fMatches 4) 4 ⟨mSt pb rb s w pl,hp⟩ .ret ⟨mEnd (mG st first w s.length (ms,l) [] pl),hp'⟩∧True:=by
 obtain ⟨hp'1,sl'2,e3,h4,h5,h6,h7⟩:=(at_ok (m:=m) (pl:=(↑pl:Int)) hb hm hg hpb hst hw hf hf2 hne hps hpm hsr hsm hn hc hq)
 rcases bcases ((atF st (↑pl:Int) (↑s.length:Int) (st.length + 1) 0 ms l false).snd.snd) with h8 | h8
 ·exact ⟨hp'1,loopEndC .ret (St.mk [J,J,J,J,J,J,TV.v (AV.bool true),J,J,J,J,J,J,J,J,J,J,J,J,J,J,J,J,J,J,J,J,J,J,J,J,J,J,J,J,J,J,J,J,J,J,J,J,J,J,J,J,J,J,J,J,J,J,J,J,J,J,J,J,J,J,J] hp'1) [.b 4 1 (beq_false_of_ne (hp0)), .b 4 3 hww, .cb 6 2 e3 h8, .b 7 2 hww, .b 7 8 (beq_iff_eq.2 ((show (↑pl:Int)=(↑s.length:Int) from (by omega))))] (by kernel_rfl) (fun h=>by cases h) (by rw [mG];simp [*, -hp0, -hpl]),trivial⟩
 ·exact ⟨hp'1,loopEndC .ret (St.mk [J,J,J,J,J,J,TV.v (AV.bool false),J,J,J,J,J,J,J,J,J,J,J,J,J,J,J,J,J,J,J,J,J,J,J,J,J,J,J,J,J,J,J,J,J,J,J,J,J,J,J,J,J,J,J,J,J,J,J,J,J,J,J,J,J,J,J] hp'1) [.b 4 1 (beq_false_of_ne (hp0)), .b 4 3 hww, .cb 6 2 e3 h8, .b 9 3 (beq_iff_eq.2 ((show (↑pl:Int)=(↑s.length:Int) from (by omega))))] (by kernel_rfl) (fun h=>by cases h) (by rw [mG];simp [*, -hp0, -hpl]),trivial⟩
theorem stepF_len (st:List NS) (c:UInt8):∀ (qs:List Nat) (ms:List Bool) (l:List Nat),(stepF st c qs ms l).1.length=ms.length
 | [],_,_=>rfl
 | q::qs,ms,l=>by
  unfold stepF
  split
  ·rfl
  ·rw [stepF_len st c qs,stepQ_len]
theorem stepF_count (st:List NS) (c:UInt8):∀ (qs:List Nat) (ms:List Bool) (l:List Nat),(stepF st c qs ms l).2.length + (stepF st c qs ms l).1.count false=l.length + ms.count false
 | [],_,_=>rfl
 | q::qs,ms,l=>by
  unfold stepF
  split
  ·rfl
  ·rw [stepF_count st c qs,stepQ_count]
theorem stepF_mem {st:List NS} (hw:WF st) (c:UInt8):∀ (qs:List Nat) (ms:List Bool) (l:List Nat),(∀ q ∈ l,q < st.length)→∀ q ∈ (stepF st c qs ms l).2,q < st.length
 | [],_,_,h=>h
 | q::qs,ms,l,h=>by
  unfold stepF
  split
  ·exact h
  ·rename_i x hx
   exact stepF_mem hw c qs _ _ (stepQ_mem _ _ _ _ h (hw.2 x (List.mem_of_getElem? hx)).2)
theorem stepF_len' {st:List NS} {c:UInt8} {qs:List Nat}:(stepF st c qs (List.replicate st.length false) []).1.length=st.length:=by rw [stepF_len];simp
theorem stepF_count' {st:List NS} {c:UInt8} {qs:List Nat}:(stepF st c qs (List.replicate st.length false) []).2.length + (stepF st c qs (List.replicate st.length false) []).1.count false=st.length:=by rw [stepF_count];simp
theorem stepF_mem' {st:List NS} {c:UInt8} {qs:List Nat} (hw:WF st):∀ q ∈ (stepF st c qs (List.replicate st.length false) []).2,q < st.length:=stepF_mem hw c qs _ _ (by simp)
theorem atF_count (st:List NS) (pl len:Int):∀ (fuel k:Nat) (ms:List Bool) (l:List Nat) (f:Bool),(atF st pl len fuel k ms l f).2.1.length + (atF st pl len fuel k ms l f).1.count false=l.length + ms.count false
 | 0,_,_,_,_=>rfl
 | fuel + 1,k,ms,l,f=>by
  unfold atF
  split
  ·rfl
  ·split
   ·rfl
   ·rw [atF_count st pl len fuel,atStep_count]
theorem atF_mem {st:List NS} (hw:WF st) (pl len:Int):∀ (fuel k:Nat) (ms:List Bool) (l:List Nat) (f:Bool),(∀ q ∈ l,q < st.length)→∀ q ∈ (atF st pl len fuel k ms l f).2.1,q < st.length
 | 0,_,_,_,_,h=>h
 | fuel + 1,k,ms,l,f,h=>by
  unfold atF
  split
  ·exact h
  ·split
   ·exact h
   ·rename_i x hx
    exact atF_mem hw pl len fuel _ _ _ _ (atStep_mem _ _ _ _ _ _ h (hw.2 x (List.mem_of_getElem? hx)).2)
theorem atF_mem' {st:List NS} {pl len:Int} {fuel k:Nat} {ms:List Bool} {l:List Nat} {f:Bool} (hw:WF st) (h:∀ q ∈ l,q < st.length):∀ q ∈ (atF st pl len fuel k ms l f).2.1,q < st.length:=atF_mem hw pl len fuel k ms l f h
theorem atF_le {st:List NS} {pl len:Int} {fuel k n:Nat} {ms:List Bool} {l:List Nat} {f:Bool} (h:l.length + ms.count false=n):(atF st pl len fuel k ms l f).2.1.length≤n:=by
 have:=atF_count st pl len fuel k ms l f
 omega
abbrev q0_m_c1 (pb:Nat) (s:List UInt8) (w:Bool) (rb:Nat) (pl:Int):List TV:=[TV.v (AV.ptr pb 0),TV.v (AV.str s),TV.v (AV.bool w),J,J,J,J,TV.v (AV.ptr rb 0),TV.v (AI ((↑pl:Int) + 1)),J,J,J,J,J,J,J,J,J,J,J,J,J,J,J,J,J,J,J,J,J,J,J,J,J,J,J,J,J,J,J,J,J,J,J,J,J,J,J,J,J,J,J,J,J,J,J,J,J,J,J,J,J]
theorem m_c1 {m:Int} {fl pb rb mb sb first pl:Nat} {hp:List Blk} {s cs:List UInt8} {w:Bool} {st:List NS} {x1 x2 x3 x4 x5 x6 x7 x8 sl:AV} {ms:List Bool} {l:List Nat} (hb:blkCells hp rb=some [.arr 1 mb 0 st.length,sl, .ptr pb 0, .str s]) (hm:blkCells hp mb=some (ms.map .bool)) (hg:Gr fl 1 hp sl (l.map natAV)) (hpb:blkCells hp pb=some (progB sb st.length x1 x2 x3 x4 x5 x6 x7 x8 first)) (hst:StOK hp sb st) (hw:WF st) (hw1:st.length < 1000000) (hfi:first < st.length) (hp0:(pl:Int)=0) (hf:fl≤rb) (hf2:fl≤mb) (hf3:fl≤hp.length) (hne:rb≠mb) (hps:pb≠rb) (hpm:pb≠mb) (hsr:sb≠rb) (hsm:sb≠mb) (hn:ms.length=st.length) (hc:l.length + ms.count false=st.length) (hq:∀ q ∈ l,q < st.length) (hpl:pl < s.length) (hpn:¬ pl=s.length) (hsz:s.length < 4611686018427387904) (hsl:sb < hp.length) (ih:∀ {hp1:List Blk} {sl1:AV} {mb1:Nat} {ms1:List Bool} {l1:List Nat},blkCells hp1 rb=some [.arr 1 mb1 0 st.length,sl1, .ptr pb 0, .str s]→blkCells hp1 mb1=some (ms1.map .bool)→Gr fl 1 hp1 sl1 (l1.map natAV)→blkCells hp1 pb=some (progB sb st.length x1 x2 x3 x4 x5 x6 x7 x8 first)→StOK hp1 sb st→fl≤mb1→fl≤hp1.length→rb≠mb1→pb≠mb1→sb≠mb1→ms1.length=st.length→l1.length + ms1.count false=st.length→(∀ q ∈ l1,q < st.length)→sb < hp1.length→∃ hp',LoopI (cfg m) fl fMatches (bodyAt (cfg m) fMatches 4) 4 ⟨mSt pb rb s w (pl + 1),hp1⟩ .ret ⟨mEnd (mF st first w s.length cs (pl + 1) ms1 l1),hp'⟩∧True):∃ hp',LoopI (cfg m) fl fMatches (bodyAt (cfg m) fMatches 4) 4 ⟨mSt pb rb s w pl,hp⟩ .ret ⟨mEnd (mG st first w s.length (putF ms l [first]) (gb s pl::cs) pl),hp'⟩∧True:=by
 have zz0:=load_ok (C:=cfg m) (t:=3) (off:=9) (x:=AI first) hpb (by kernel_rfl)
 obtain ⟨hp'1,sl'2,e3,h4,h5,h6,h7⟩:=(N.put_ok (m:=m) (x:=AV.lit 1 Own.exact [AI first]) (ks:=[first]) hb hm hg (isSl_first (first:=first)) hf hf2 hne hw1 (one_lt (first:=first)) (hd_mem hfi) hn hc)
 obtain ⟨hp'8,sl'9,e10,h11,h12,h13,h14⟩:=(at_ok (m:=m) (pl:=(↑pl:Int)) (rest:=[x1,x2,x3,x4,x5,x6,x7,x8,AI first]) h4 h5 h6 (frC_blk h7 hpb (by simp_all;done)) (StOK.fr h7 hst (by simp_all;done)) hw hf hf2 hne hps hpm hsr hsm (putF_len' (ks:=[first]) (l:=l) hn) (putF_count' (ks:=[first]) hc) (putF_mem1 (ms:=ms) hq hfi))
 rcases bcases ((atF st (↑pl:Int) (↑s.length:Int) (st.length + 1) 0 (putF ms l [first]).fst (putF ms l [first]).snd false).snd.snd) with h15 | h15
 ·rcases bcases (w) with h16 | h16
  ·obtain ⟨hp'17,sl'18,e19,h20,h21,h22,h23⟩:=(step_ok (m:=m) (c:=gb s pl) (rest:=[x1,x2,x3,x4,x5,x6,x7,x8,AI first]) h11 h13 (frC_blk (b:=pb) (cs:=[AV.arr 6 sb 0 st.length,x1,x2,x3,x4,x5,x6,x7,x8,AI first]) h14 (frC_blk h7 hpb (by simp_all;done)) (by simp_all;done)) (StOK.fr (sb:=sb) (st:=st) h14 (StOK.fr h7 hst (by simp_all;done)) (by simp_all;done)) hw (by omega) (atF_mem' (pl:=(↑pl:Int)) (len:=(↑s.length:Int)) (fuel:=st.length + 1) (k:=0) (ms:=(putF ms l [first]).fst) (l:=(putF ms l [first]).snd) (f:=false) hw (putF_mem1 (ms:=ms) hq hfi)) (atF_le (st:=st) (pl:=(↑pl:Int)) (len:=(↑s.length:Int)) (fuel:=st.length + 1) (k:=0) (n:=st.length) (ms:=(putF ms l [first]).fst) (l:=(putF ms l [first]).snd) (f:=false) (putF_count' (ks:=[first]) hc)) hf (by have:=blk_lt hb;have:=blk_lt hm;have:=blk_lt hpb;have:=blk_lt h4;have:=blk_lt h5;have:=h7.1;have:=blk_lt h11;have:=blk_lt h12;have:=h14.1;omega) hps hsr (by have:=blk_lt hb;have:=blk_lt hm;have:=blk_lt hpb;have:=blk_lt h4;have:=blk_lt h5;have:=h7.1;have:=blk_lt h11;have:=blk_lt h12;have:=h14.1;omega))
   obtain ⟨hp'24,e25,h26⟩:=(ih h20 h21 h22 (frC_blk (b:=pb) (cs:=progB sb st.length x1 x2 x3 x4 x5 x6 x7 x8 first) h23 (frC_blk (b:=pb) (cs:=progB sb st.length x1 x2 x3 x4 x5 x6 x7 x8 first) h14 (frC_blk h7 hpb (by simp_all;done)) (by simp_all;done)) (by simp_all;done)) (StOK.fr (sb:=sb) (st:=st) h23 (StOK.fr (sb:=sb) (st:=st) h14 (StOK.fr h7 hst (by simp_all;done)) (by simp_all;done)) (by simp_all;done)) (by have:=UInt8.toNat_lt (gb s pl);have:=blk_lt hb;have:=blk_lt hm;have:=blk_lt hpb;have:=blk_lt h4;have:=blk_lt h5;have:=h7.1;have:=blk_lt h11;have:=blk_lt h12;have:=h14.1;have:=blk_lt h20;have:=blk_lt h21;have:=h23.1;omega) (by have:=UInt8.toNat_lt (gb s pl);have:=blk_lt hb;have:=blk_lt hm;have:=blk_lt hpb;have:=blk_lt h4;have:=blk_lt h5;have:=h7.1;have:=blk_lt h11;have:=blk_lt h12;have:=h14.1;have:=blk_lt h20;have:=blk_lt h21;have:=h23.1;omega) (by have:=UInt8.toNat_lt (gb s pl);have:=blk_lt hb;have:=blk_lt hm;have:=blk_lt hpb;have:=blk_lt h4;have:=blk_lt h5;have:=h7.1;have:=blk_lt h11;have:=blk_lt h12;have:=h14.1;have:=blk_lt h20;have:=blk_lt h21;have:=h23.1;omega) (by have:=UInt8.toNat_lt (gb s pl);have:=blk_lt hb;have:=blk_lt hm;have:=blk_lt hpb;have:=blk_lt h4;have:=blk_lt h5;have:=h7.1;have:=blk_lt h11;have:=blk_lt h12;have:=h14.1;have:=blk_lt h20;have:=blk_lt h21;have:=h23.1;omega) (by have:=UInt8.toNat_lt (gb s pl);have:=blk_lt hb;have:=blk_lt hm;have:=blk_lt hpb;have:=blk_lt h4;have:=blk_lt h5;have:=h7.1;have:=blk_lt h11;have:=blk_lt h12;have:=h14.1;have:=blk_lt h20;have:=blk_lt h21;have:=h23.1;omega) (stepF_len' (st:=st) (c:=gb s pl) (qs:=(atF st (↑pl:Int) (↑s.length:Int) (st.length + 1) 0 (putF ms l [first]).fst (putF ms l [first]).snd false).snd.fst)) (stepF_count' (st:=st) (c:=gb s pl) (qs:=(atF st (↑pl:Int) (↑s.length:Int) (st.length + 1) 0 (putF ms l [first]).fst (putF ms l [first]).snd false).snd.fst)) (stepF_mem' (c:=gb s pl) (qs:=(atF st (↑pl:Int) (↑s.length:Int) (st.length + 1) 0 (putF ms l [first]).fst (putF ms l [first]).snd false).snd.fst) hw) (by have:=UInt8.toNat_lt (gb s pl);have:=blk_lt hb;have:=blk_lt hm;have:=blk_lt hpb;have:=blk_lt h4;have:=blk_lt h5;have:=h7.1;have:=blk_lt h11;have:=blk_lt h12;have:=h14.1;have:=blk_lt h20;have:=blk_lt h21;have:=h23.1;omega))
   exact ⟨hp'24,loopStepC (St.mk (q0_m_c1 pb s w rb pl) hp'17) [.b 4 1 (beq_iff_eq.2 (hp0)), .m 5 6 zz0, .c 5 8 e3, .cb 6 2 e10 h15, .b 7 2 h16, .b 7 8 (beq_false_of_ne ((show ¬(↑pl:Int)=(↑s.length:Int) from (by omega)))), .b 9 3 (beq_false_of_ne ((show ¬(↑pl:Int)=(↑s.length:Int) from (by omega)))), .v 11 3 (index_gb (C:=cfg m) (t:=9) (s:=s) (n:=(↑pl:Int)) (by kernel_rfl) (by omega) (by omega)), .c 11 4 e19, .w 3 1 IntKind.i64 ((↑pl:Int) + 1) (wrap_i64' (by omega))] (by kernel_rfl) e25 (by rw [mG];simp [*, -hp0]),trivial⟩
  ·exact ⟨hp'8,loopEndC .ret (St.mk [J,J,J,J,J,J,TV.v (AV.bool true),J,J,J,J,J,J,J,J,J,J,J,J,J,J,J,J,J,J,J,J,J,J,J,J,J,J,J,J,J,J,J,J,J,J,J,J,J,J,J,J,J,J,J,J,J,J,J,J,J,J,J,J,J,J,J] hp'8) [.b 4 1 (beq_iff_eq.2 (hp0)), .m 5 6 zz0, .c 5 8 e3, .cb 6 2 e10 h15, .b 7 2 h16] (by kernel_rfl) (fun h=>by cases h) (by rw [mG];simp [*, -hp0]),trivial⟩
 ·obtain ⟨hp'16,sl'17,e18,h19,h20,h21,h22⟩:=(step_ok (m:=m) (c:=gb s pl) (rest:=[x1,x2,x3,x4,x5,x6,x7,x8,AI first]) h11 h13 (frC_blk (b:=pb) (cs:=[AV.arr 6 sb 0 st.length,x1,x2,x3,x4,x5,x6,x7,x8,AI first]) h14 (frC_blk h7 hpb (by simp_all;done)) (by simp_all;done)) (StOK.fr (sb:=sb) (st:=st) h14 (StOK.fr h7 hst (by simp_all;done)) (by simp_all;done)) hw (by omega) (atF_mem' (pl:=(↑pl:Int)) (len:=(↑s.length:Int)) (fuel:=st.length + 1) (k:=0) (ms:=(putF ms l [first]).fst) (l:=(putF ms l [first]).snd) (f:=false) hw (putF_mem1 (ms:=ms) hq hfi)) (atF_le (st:=st) (pl:=(↑pl:Int)) (len:=(↑s.length:Int)) (fuel:=st.length + 1) (k:=0) (n:=st.length) (ms:=(putF ms l [first]).fst) (l:=(putF ms l [first]).snd) (f:=false) (putF_count' (ks:=[first]) hc)) hf (by have:=blk_lt hb;have:=blk_lt hm;have:=blk_lt hpb;have:=blk_lt h4;have:=blk_lt h5;have:=h7.1;have:=blk_lt h11;have:=blk_lt h12;have:=h14.1;omega) hps hsr (by have:=blk_lt hb;have:=blk_lt hm;have:=blk_lt hpb;have:=blk_lt h4;have:=blk_lt h5;have:=h7.1;have:=blk_lt h11;have:=blk_lt h12;have:=h14.1;omega))
  obtain ⟨hp'23,e24,h25⟩:=(ih h19 h20 h21 (frC_blk (b:=pb) (cs:=progB sb st.length x1 x2 x3 x4 x5 x6 x7 x8 first) h22 (frC_blk (b:=pb) (cs:=progB sb st.length x1 x2 x3 x4 x5 x6 x7 x8 first) h14 (frC_blk h7 hpb (by simp_all;done)) (by simp_all;done)) (by simp_all;done)) (StOK.fr (sb:=sb) (st:=st) h22 (StOK.fr (sb:=sb) (st:=st) h14 (StOK.fr h7 hst (by simp_all;done)) (by simp_all;done)) (by simp_all;done)) (by have:=UInt8.toNat_lt (gb s pl);have:=blk_lt hb;have:=blk_lt hm;have:=blk_lt hpb;have:=blk_lt h4;have:=blk_lt h5;have:=h7.1;have:=blk_lt h11;have:=blk_lt h12;have:=h14.1;have:=blk_lt h19;have:=blk_lt h20;have:=h22.1;omega) (by have:=UInt8.toNat_lt (gb s pl);have:=blk_lt hb;have:=blk_lt hm;have:=blk_lt hpb;have:=blk_lt h4;have:=blk_lt h5;have:=h7.1;have:=blk_lt h11;have:=blk_lt h12;have:=h14.1;have:=blk_lt h19;have:=blk_lt h20;have:=h22.1;omega) (by have:=UInt8.toNat_lt (gb s pl);have:=blk_lt hb;have:=blk_lt hm;have:=blk_lt hpb;have:=blk_lt h4;have:=blk_lt h5;have:=h7.1;have:=blk_lt h11;have:=blk_lt h12;have:=h14.1;have:=blk_lt h19;have:=blk_lt h20;have:=h22.1;omega) (by have:=UInt8.toNat_lt (gb s pl);have:=blk_lt hb;have:=blk_lt hm;have:=blk_lt hpb;have:=blk_lt h4;have:=blk_lt h5;have:=h7.1;have:=blk_lt h11;have:=blk_lt h12;have:=h14.1;have:=blk_lt h19;have:=blk_lt h20;have:=h22.1;omega) (by have:=UInt8.toNat_lt (gb s pl);have:=blk_lt hb;have:=blk_lt hm;have:=blk_lt hpb;have:=blk_lt h4;have:=blk_lt h5;have:=h7.1;have:=blk_lt h11;have:=blk_lt h12;have:=h14.1;have:=blk_lt h19;have:=blk_lt h20;have:=h22.1;omega) (stepF_len' (st:=st) (c:=gb s pl) (qs:=(atF st (↑pl:Int) (↑s.length:Int) (st.length + 1) 0 (putF ms l [first]).fst (putF ms l [first]).snd false).snd.fst)) (stepF_count' (st:=st) (c:=gb s pl) (qs:=(atF st (↑pl:Int) (↑s.length:Int) (st.length + 1) 0 (putF ms l [first]).fst (putF ms l [first]).snd false).snd.fst)) (stepF_mem' (c:=gb s pl) (qs:=(atF st (↑pl:Int) (↑s.length:Int) (st.length + 1) 0 (putF ms l [first]).fst (putF ms l [first]).snd false).snd.fst) hw) (by have:=UInt8.toNat_lt (gb s pl);have:=blk_lt hb;have:=blk_lt hm;have:=blk_lt hpb;have:=blk_lt h4;have:=blk_lt h5;have:=h7.1;have:=blk_lt h11;have:=blk_lt h12;have:=h14.1;have:=blk_lt h19;have:=blk_lt h20;have:=h22.1;omega))
  exact ⟨hp'23,loopStepC (St.mk (q0_m_c1 pb s w rb pl) hp'16) [.b 4 1 (beq_iff_eq.2 (hp0)), .m 5 6 zz0, .c 5 8 e3, .cb 6 2 e10 h15, .b 9 3 (beq_false_of_ne ((show ¬(↑pl:Int)=(↑s.length:Int) from (by omega)))), .v 11 3 (index_gb (C:=cfg m) (t:=9) (s:=s) (n:=(↑pl:Int)) (by kernel_rfl) (by omega) (by omega)), .c 11 4 e18, .w 3 1 IntKind.i64 ((↑pl:Int) + 1) (wrap_i64' (by omega))] (by kernel_rfl) e24 (by rw [mG];simp [*, -hp0]),trivial⟩
theorem m_c2 {m:Int} {fl pb rb mb sb first pl:Nat} {hp:List Blk} {s cs:List UInt8} {w:Bool} {st:List NS} {x1 x2 x3 x4 x5 x6 x7 x8 sl:AV} {ms:List Bool} {l:List Nat} (hb:blkCells hp rb=some [.arr 1 mb 0 st.length,sl, .ptr pb 0, .str s]) (hm:blkCells hp mb=some (ms.map .bool)) (hg:Gr fl 1 hp sl (l.map natAV)) (hpb:blkCells hp pb=some (progB sb st.length x1 x2 x3 x4 x5 x6 x7 x8 first)) (hst:StOK hp sb st) (hw:WF st) (hw1:st.length < 1000000) (hfi:first < st.length) (hp0:¬ (pl:Int)=0) (hww:w=false) (hf:fl≤rb) (hf2:fl≤mb) (hf3:fl≤hp.length) (hne:rb≠mb) (hps:pb≠rb) (hpm:pb≠mb) (hsr:sb≠rb) (hsm:sb≠mb) (hn:ms.length=st.length) (hc:l.length + ms.count false=st.length) (hq:∀ q ∈ l,q < st.length) (hpl:pl < s.length) (hpn:¬ pl=s.length) (hsz:s.length < 4611686018427387904) (hsl:sb < hp.length) (ih:∀ {hp1:List Blk} {sl1:AV} {mb1:Nat} {ms1:List Bool} {l1:List Nat},blkCells hp1 rb=some [.arr 1 mb1 0 st.length,sl1, .ptr pb 0, .str s]→blkCells hp1 mb1=some (ms1.map .bool)→Gr fl 1 hp1 sl1 (l1.map natAV)→blkCells hp1 pb=some (progB sb st.length x1 x2 x3 x4 x5 x6 x7 x8 first)→StOK hp1 sb st→fl≤mb1→fl≤hp1.length→rb≠mb1→pb≠mb1→sb≠mb1→ms1.length=st.length→l1.length + ms1.count false=st.length→(∀ q ∈ l1,q < st.length)→sb < hp1.length→∃ hp',LoopI (cfg m) fl fMatches (bodyAt (cfg m) fMatches 4) 4 ⟨mSt pb rb s w (pl + 1),hp1⟩ .ret ⟨mEnd (mF st first w s.length cs (pl + 1) ms1 l1),hp'⟩∧True):∃ hp',LoopI (cfg m) fl fMatches (bodyAt (cfg m) fMatches 4) 4 ⟨mSt pb rb s w pl,hp⟩ .ret ⟨mEnd (mG st first w s.length (putF ms l [first]) (gb s pl::cs) pl),hp'⟩∧True:=by
 obtain ⟨hp'1,sl'2,e3,h4,h5,h6,h7⟩:=(N.put_ok (m:=m) (x:=AV.lit 1 Own.exact [AI first]) (ks:=[first]) hb hm hg (isSl_first (first:=first)) hf hf2 hne hw1 (one_lt (first:=first)) (hd_mem hfi) hn hc)
 obtain ⟨hp'8,sl'9,e10,h11,h12,h13,h14⟩:=(at_ok (m:=m) (pl:=(↑pl:Int)) (rest:=[x1,x2,x3,x4,x5,x6,x7,x8,AI first]) h4 h5 h6 (frC_blk h7 hpb (by simp_all;done)) (StOK.fr h7 hst (by simp_all;done)) hw hf hf2 hne hps hpm hsr hsm (putF_len' (ks:=[first]) (l:=l) hn) (putF_count' (ks:=[first]) hc) (putF_mem1 (ms:=ms) hq hfi))
 rcases bcases ((atF st (↑pl:Int) (↑s.length:Int) (st.length + 1) 0 (putF ms l [first]).fst (putF ms l [first]).snd false).snd.snd) with h15 | h15
 ·exact ⟨hp'8,loopEndC .ret (St.mk [J,J,J,J,J,J,TV.v (AV.bool true),J,J,J,J,J,J,J,J,J,J,J,J,J,J,J,J,J,J,J,J,J,J,J,J,J,J,J,J,J,J,J,J,J,J,J,J,J,J,J,J,J,J,J,J,J,J,J,J,J,J,J,J,J,J,J] hp'8) [.b 4 1 (beq_false_of_ne (hp0)), .b 4 3 hww, .m 5 6 (load_ok (C:=cfg m) (t:=3) (off:=9) (x:=AI first) hpb (by kernel_rfl)), .c 5 8 e3, .cb 6 2 e10 h15, .b 7 2 hww] (by kernel_rfl) (fun h=>by cases h) (by rw [mG];simp [*, -hp0]),trivial⟩
 ·obtain ⟨hp'16,sl'17,e18,h19,h20,h21,h22⟩:=(step_ok (m:=m) (c:=gb s pl) (rest:=[x1,x2,x3,x4,x5,x6,x7,x8,AI first]) h11 h13 (frC_blk (b:=pb) (cs:=[AV.arr 6 sb 0 st.length,x1,x2,x3,x4,x5,x6,x7,x8,AI first]) h14 (frC_blk h7 hpb (by simp_all;done)) (by simp_all;done)) (StOK.fr (sb:=sb) (st:=st) h14 (StOK.fr h7 hst (by simp_all;done)) (by simp_all;done)) hw (by omega) (atF_mem' (pl:=(↑pl:Int)) (len:=(↑s.length:Int)) (fuel:=st.length + 1) (k:=0) (ms:=(putF ms l [first]).fst) (l:=(putF ms l [first]).snd) (f:=false) hw (putF_mem1 (ms:=ms) hq hfi)) (atF_le (st:=st) (pl:=(↑pl:Int)) (len:=(↑s.length:Int)) (fuel:=st.length + 1) (k:=0) (n:=st.length) (ms:=(putF ms l [first]).fst) (l:=(putF ms l [first]).snd) (f:=false) (putF_count' (ks:=[first]) hc)) hf (by have:=blk_lt hb;have:=blk_lt hm;have:=blk_lt hpb;have:=blk_lt h4;have:=blk_lt h5;have:=h7.1;have:=blk_lt h11;have:=blk_lt h12;have:=h14.1;omega) hps hsr (by have:=blk_lt hb;have:=blk_lt hm;have:=blk_lt hpb;have:=blk_lt h4;have:=blk_lt h5;have:=h7.1;have:=blk_lt h11;have:=blk_lt h12;have:=h14.1;omega))
  obtain ⟨hp'23,e24,h25⟩:=(ih h19 h20 h21 (frC_blk (b:=pb) (cs:=progB sb st.length x1 x2 x3 x4 x5 x6 x7 x8 first) h22 (frC_blk (b:=pb) (cs:=progB sb st.length x1 x2 x3 x4 x5 x6 x7 x8 first) h14 (frC_blk h7 hpb (by simp_all;done)) (by simp_all;done)) (by simp_all;done)) (StOK.fr (sb:=sb) (st:=st) h22 (StOK.fr (sb:=sb) (st:=st) h14 (StOK.fr h7 hst (by simp_all;done)) (by simp_all;done)) (by simp_all;done)) (by have:=UInt8.toNat_lt (gb s pl);have:=blk_lt hb;have:=blk_lt hm;have:=blk_lt hpb;have:=blk_lt h4;have:=blk_lt h5;have:=h7.1;have:=blk_lt h11;have:=blk_lt h12;have:=h14.1;have:=blk_lt h19;have:=blk_lt h20;have:=h22.1;omega) (by have:=UInt8.toNat_lt (gb s pl);have:=blk_lt hb;have:=blk_lt hm;have:=blk_lt hpb;have:=blk_lt h4;have:=blk_lt h5;have:=h7.1;have:=blk_lt h11;have:=blk_lt h12;have:=h14.1;have:=blk_lt h19;have:=blk_lt h20;have:=h22.1;omega) (by have:=UInt8.toNat_lt (gb s pl);have:=blk_lt hb;have:=blk_lt hm;have:=blk_lt hpb;have:=blk_lt h4;have:=blk_lt h5;have:=h7.1;have:=blk_lt h11;have:=blk_lt h12;have:=h14.1;have:=blk_lt h19;have:=blk_lt h20;have:=h22.1;omega) (by have:=UInt8.toNat_lt (gb s pl);have:=blk_lt hb;have:=blk_lt hm;have:=blk_lt hpb;have:=blk_lt h4;have:=blk_lt h5;have:=h7.1;have:=blk_lt h11;have:=blk_lt h12;have:=h14.1;have:=blk_lt h19;have:=blk_lt h20;have:=h22.1;omega) (by have:=UInt8.toNat_lt (gb s pl);have:=blk_lt hb;have:=blk_lt hm;have:=blk_lt hpb;have:=blk_lt h4;have:=blk_lt h5;have:=h7.1;have:=blk_lt h11;have:=blk_lt h12;have:=h14.1;have:=blk_lt h19;have:=blk_lt h20;have:=h22.1;omega) (stepF_len' (st:=st) (c:=gb s pl) (qs:=(atF st (↑pl:Int) (↑s.length:Int) (st.length + 1) 0 (putF ms l [first]).fst (putF ms l [first]).snd false).snd.fst)) (stepF_count' (st:=st) (c:=gb s pl) (qs:=(atF st (↑pl:Int) (↑s.length:Int) (st.length + 1) 0 (putF ms l [first]).fst (putF ms l [first]).snd false).snd.fst)) (stepF_mem' (c:=gb s pl) (qs:=(atF st (↑pl:Int) (↑s.length:Int) (st.length + 1) 0 (putF ms l [first]).fst (putF ms l [first]).snd false).snd.fst) hw) (by have:=UInt8.toNat_lt (gb s pl);have:=blk_lt hb;have:=blk_lt hm;have:=blk_lt hpb;have:=blk_lt h4;have:=blk_lt h5;have:=h7.1;have:=blk_lt h11;have:=blk_lt h12;have:=h14.1;have:=blk_lt h19;have:=blk_lt h20;have:=h22.1;omega))
  exact ⟨hp'23,loopStepC (St.mk [TV.v (AV.ptr pb 0),TV.v (AV.str s),TV.v (AV.bool w),J,J,J,J,TV.v (AV.ptr rb 0),TV.v (AI ((↑pl:Int) + 1)),J,J,J,J,J,J,J,J,J,J,J,J,J,J,J,J,J,J,J,J,J,J,J,J,J,J,J,J,J,J,J,J,J,J,J,J,J,J,J,J,J,J,J,J,J,J,J,J,J,J,J,J,J] hp'16) [.b 4 1 (beq_false_of_ne (hp0)), .b 4 3 hww, .m 5 6 (load_ok (C:=cfg m) (t:=3) (off:=9) (x:=AI first) hpb (by kernel_rfl)), .c 5 8 e3, .cb 6 2 e10 h15, .b 9 3 (beq_false_of_ne ((show ¬(↑pl:Int)=(↑s.length:Int) from (by omega)))), .v 11 3 (index_gb (C:=cfg m) (t:=9) (s:=s) (n:=(↑pl:Int)) (by kernel_rfl) (by omega) (by omega)), .c 11 4 e18, .w 3 1 IntKind.i64 ((↑pl:Int) + 1) (wrap_i64' (by omega))] (by kernel_rfl) e24 (by rw [mG];simp [*, -hp0]),trivial⟩
abbrev q0_m_c3 (pb:Nat) (s:List UInt8) (w:Bool) (rb:Nat) (pl:Int):List TV:=[TV.v (AV.ptr pb 0),TV.v (AV.str s),TV.v (AV.bool w),J,J,J,J,TV.v (AV.ptr rb 0),TV.v (AI ((↑pl:Int) + 1)),J,J,J,J,J,J,J,J,J,J,J,J,J,J,J,J,J,J,J,J,J,J,J,J,J,J,J,J,J,J,J,J,J,J,J,J,J,J,J,J,J,J,J,J,J,J,J,J,J,J,J,J,J]
theorem m_c3 {m:Int} {fl pb rb mb sb first pl:Nat} {hp:List Blk} {s cs:List UInt8} {w:Bool} {st:List NS} {x1 x2 x3 x4 x5 x6 x7 x8 sl:AV} {ms:List Bool} {l:List Nat} (hb:blkCells hp rb=some [.arr 1 mb 0 st.length,sl, .ptr pb 0, .str s]) (hm:blkCells hp mb=some (ms.map .bool)) (hg:Gr fl 1 hp sl (l.map natAV)) (hpb:blkCells hp pb=some (progB sb st.length x1 x2 x3 x4 x5 x6 x7 x8 first)) (hst:StOK hp sb st) (hw:WF st) (hw1:st.length < 1000000) (hfi:first < st.length) (hp0:¬ (pl:Int)=0) (hww:w=true) (hf:fl≤rb) (hf2:fl≤mb) (hf3:fl≤hp.length) (hne:rb≠mb) (hps:pb≠rb) (hpm:pb≠mb) (hsr:sb≠rb) (hsm:sb≠mb) (hn:ms.length=st.length) (hc:l.length + ms.count false=st.length) (hq:∀ q ∈ l,q < st.length) (hpl:pl < s.length) (hpn:¬ pl=s.length) (hsz:s.length < 4611686018427387904) (hsl:sb < hp.length) (ih:∀ {hp1:List Blk} {sl1:AV} {mb1:Nat} {ms1:List Bool} {l1:List Nat},blkCells hp1 rb=some [.arr 1 mb1 0 st.length,sl1, .ptr pb 0, .str s]→blkCells hp1 mb1=some (ms1.map .bool)→Gr fl 1 hp1 sl1 (l1.map natAV)→blkCells hp1 pb=some (progB sb st.length x1 x2 x3 x4 x5 x6 x7 x8 first)→StOK hp1 sb st→fl≤mb1→fl≤hp1.length→rb≠mb1→pb≠mb1→sb≠mb1→ms1.length=st.length→l1.length + ms1.count false=st.length→(∀ q ∈ l1,q < st.length)→sb < hp1.length→∃ hp',LoopI (cfg m) fl fMatches (bodyAt (cfg m) fMatches 4) 4 ⟨mSt pb rb s w (pl + 1),hp1⟩ .ret ⟨mEnd (mF st first w s.length cs (pl + 1) ms1 l1),hp'⟩∧True):∃ hp',LoopI (cfg m) fl fMatches (bodyAt (cfg m) fMatches 4) 4 ⟨mSt pb rb s w pl,hp⟩ .ret ⟨mEnd (mG st first w s.length (ms,l) (gb s pl::cs) pl),hp'⟩∧True:=by
 obtain ⟨hp'1,sl'2,e3,h4,h5,h6,h7⟩:=(at_ok (m:=m) (pl:=(↑pl:Int)) hb hm hg hpb hst hw hf hf2 hne hps hpm hsr hsm hn hc hq)
 rcases bcases ((atF st (↑pl:Int) (↑s.length:Int) (st.length + 1) 0 ms l false).snd.snd) with h8 | h8
 ·obtain ⟨hp'9,sl'10,e11,h12,h13,h14,h15⟩:=(step_ok (m:=m) (c:=gb s pl) (rest:=[x1,x2,x3,x4,x5,x6,x7,x8,AI first]) h4 h6 (frC_blk h7 hpb (by simp_all;done)) (StOK.fr h7 hst (by simp_all;done)) hw (by omega) (atF_mem' (pl:=(↑pl:Int)) (len:=(↑s.length:Int)) (fuel:=st.length + 1) (k:=0) (ms:=ms) (f:=false) hw hq) (atF_le (st:=st) (pl:=(↑pl:Int)) (len:=(↑s.length:Int)) (fuel:=st.length + 1) (k:=0) (f:=false) hc) hf (by have:=blk_lt hb;have:=blk_lt hm;have:=blk_lt hpb;have:=blk_lt h4;have:=blk_lt h5;have:=h7.1;omega) hps hsr (by have:=blk_lt hb;have:=blk_lt hm;have:=blk_lt hpb;have:=blk_lt h4;have:=blk_lt h5;have:=h7.1;omega))
  obtain ⟨hp'16,e17,h18⟩:=(ih h12 h13 h14 (frC_blk (b:=pb) (cs:=progB sb st.length x1 x2 x3 x4 x5 x6 x7 x8 first) h15 (frC_blk h7 hpb (by simp_all;done)) (by simp_all;done)) (StOK.fr (sb:=sb) (st:=st) h15 (StOK.fr h7 hst (by simp_all;done)) (by simp_all;done)) (by have:=UInt8.toNat_lt (gb s pl);have:=blk_lt hb;have:=blk_lt hm;have:=blk_lt hpb;have:=blk_lt h4;have:=blk_lt h5;have:=h7.1;have:=blk_lt h12;have:=blk_lt h13;have:=h15.1;omega) (by have:=UInt8.toNat_lt (gb s pl);have:=blk_lt hb;have:=blk_lt hm;have:=blk_lt hpb;have:=blk_lt h4;have:=blk_lt h5;have:=h7.1;have:=blk_lt h12;have:=blk_lt h13;have:=h15.1;omega) (by have:=UInt8.toNat_lt (gb s pl);have:=blk_lt hb;have:=blk_lt hm;have:=blk_lt hpb;have:=blk_lt h4;have:=blk_lt h5;have:=h7.1;have:=blk_lt h12;have:=blk_lt h13;have:=h15.1;omega) (by have:=UInt8.toNat_lt (gb s pl);have:=blk_lt hb;have:=blk_lt hm;have:=blk_lt hpb;have:=blk_lt h4;have:=blk_lt h5;have:=h7.1;have:=blk_lt h12;have:=blk_lt h13;have:=h15.1;omega) (by have:=UInt8.toNat_lt (gb s pl);have:=blk_lt hb;have:=blk_lt hm;have:=blk_lt hpb;have:=blk_lt h4;have:=blk_lt h5;have:=h7.1;have:=blk_lt h12;have:=blk_lt h13;have:=h15.1;omega) (stepF_len' (st:=st) (c:=gb s pl) (qs:=(atF st (↑pl:Int) (↑s.length:Int) (st.length + 1) 0 ms l false).snd.fst)) (stepF_count' (st:=st) (c:=gb s pl) (qs:=(atF st (↑pl:Int) (↑s.length:Int) (st.length + 1) 0 ms l false).snd.fst)) (stepF_mem' (c:=gb s pl) (qs:=(atF st (↑pl:Int) (↑s.length:Int) (st.length + 1) 0 ms l false).snd.fst) hw) (by have:=UInt8.toNat_lt (gb s pl);have:=blk_lt hb;have:=blk_lt hm;have:=blk_lt hpb;have:=blk_lt h4;have:=blk_lt h5;have:=h7.1;have:=blk_lt h12;have:=blk_lt h13;have:=h15.1;omega))
  exact ⟨hp'16,loopStepC (St.mk (q0_m_c3 pb s w rb pl) hp'9) [.b 4 1 (beq_false_of_ne (hp0)), .b 4 3 hww, .cb 6 2 e3 h8, .b 7 2 hww, .b 7 8 (beq_false_of_ne ((show ¬(↑pl:Int)=(↑s.length:Int) from (by omega)))), .b 9 3 (beq_false_of_ne ((show ¬(↑pl:Int)=(↑s.length:Int) from (by omega)))), .v 11 3 (index_gb (C:=cfg m) (t:=9) (s:=s) (n:=(↑pl:Int)) (by kernel_rfl) (by omega) (by omega)), .c 11 4 e11, .w 3 1 IntKind.i64 ((↑pl:Int) + 1) (wrap_i64' (by omega))] (by kernel_rfl) e17 (by rw [mG];simp [*, -hp0]),trivial⟩
 ·obtain ⟨hp'9,sl'10,e11,h12,h13,h14,h15⟩:=(step_ok (m:=m) (c:=gb s pl) (rest:=[x1,x2,x3,x4,x5,x6,x7,x8,AI first]) h4 h6 (frC_blk h7 hpb (by simp_all;done)) (StOK.fr h7 hst (by simp_all;done)) hw (by omega) (atF_mem' (pl:=(↑pl:Int)) (len:=(↑s.length:Int)) (fuel:=st.length + 1) (k:=0) (ms:=ms) (f:=false) hw hq) (atF_le (st:=st) (pl:=(↑pl:Int)) (len:=(↑s.length:Int)) (fuel:=st.length + 1) (k:=0) (f:=false) hc) hf (by have:=blk_lt hb;have:=blk_lt hm;have:=blk_lt hpb;have:=blk_lt h4;have:=blk_lt h5;have:=h7.1;omega) hps hsr (by have:=blk_lt hb;have:=blk_lt hm;have:=blk_lt hpb;have:=blk_lt h4;have:=blk_lt h5;have:=h7.1;omega))
  obtain ⟨hp'16,e17,h18⟩:=(ih h12 h13 h14 (frC_blk (b:=pb) (cs:=progB sb st.length x1 x2 x3 x4 x5 x6 x7 x8 first) h15 (frC_blk h7 hpb (by simp_all;done)) (by simp_all;done)) (StOK.fr (sb:=sb) (st:=st) h15 (StOK.fr h7 hst (by simp_all;done)) (by simp_all;done)) (by have:=UInt8.toNat_lt (gb s pl);have:=blk_lt hb;have:=blk_lt hm;have:=blk_lt hpb;have:=blk_lt h4;have:=blk_lt h5;have:=h7.1;have:=blk_lt h12;have:=blk_lt h13;have:=h15.1;omega) (by have:=UInt8.toNat_lt (gb s pl);have:=blk_lt hb;have:=blk_lt hm;have:=blk_lt hpb;have:=blk_lt h4;have:=blk_lt h5;have:=h7.1;have:=blk_lt h12;have:=blk_lt h13;have:=h15.1;omega) (by have:=UInt8.toNat_lt (gb s pl);have:=blk_lt hb;have:=blk_lt hm;have:=blk_lt hpb;have:=blk_lt h4;have:=blk_lt h5;have:=h7.1;have:=blk_lt h12;have:=blk_lt h13;have:=h15.1;omega) (by have:=UInt8.toNat_lt (gb s pl);have:=blk_lt hb;have:=blk_lt hm;have:=blk_lt hpb;have:=blk_lt h4;have:=blk_lt h5;have:=h7.1;have:=blk_lt h12;have:=blk_lt h13;have:=h15.1;omega) (by have:=UInt8.toNat_lt (gb s pl);have:=blk_lt hb;have:=blk_lt hm;have:=blk_lt hpb;have:=blk_lt h4;have:=blk_lt h5;have:=h7.1;have:=blk_lt h12;have:=blk_lt h13;have:=h15.1;omega) (stepF_len' (st:=st) (c:=gb s pl) (qs:=(atF st (↑pl:Int) (↑s.length:Int) (st.length + 1) 0 ms l false).snd.fst)) (stepF_count' (st:=st) (c:=gb s pl) (qs:=(atF st (↑pl:Int) (↑s.length:Int) (st.length + 1) 0 ms l false).snd.fst)) (stepF_mem' (c:=gb s pl) (qs:=(atF st (↑pl:Int) (↑s.length:Int) (st.length + 1) 0 ms l false).snd.fst) hw) (by have:=UInt8.toNat_lt (gb s pl);have:=blk_lt hb;have:=blk_lt hm;have:=blk_lt hpb;have:=blk_lt h4;have:=blk_lt h5;have:=h7.1;have:=blk_lt h12;have:=blk_lt h13;have:=h15.1;omega))
  exact ⟨hp'16,loopStepC (St.mk (q0_m_c3 pb s w rb pl) hp'9) [.b 4 1 (beq_false_of_ne (hp0)), .b 4 3 hww, .cb 6 2 e3 h8, .b 9 3 (beq_false_of_ne ((show ¬(↑pl:Int)=(↑s.length:Int) from (by omega)))), .v 11 3 (index_gb (C:=cfg m) (t:=9) (s:=s) (n:=(↑pl:Int)) (by kernel_rfl) (by omega) (by omega)), .c 11 4 e11, .w 3 1 IntKind.i64 ((↑pl:Int) + 1) (wrap_i64' (by omega))] (by kernel_rfl) e17 (by rw [mG];simp [*, -hp0]),trivial⟩
end Go.Proofs.YtanopbolgfcojaaGreatDoor.E.SZ.N
