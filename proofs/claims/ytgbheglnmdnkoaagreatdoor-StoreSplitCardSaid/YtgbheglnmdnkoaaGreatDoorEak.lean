/- Steps of the seat's proofs: an evaluator of the program's code, its soundness, and what the functions come to. -/
import Derived.Test.YtgbheglnmdnkoaaGreatDoorEaj
import Derived.KernelRfl
set_option linter.unusedSimpArgs false
set_option linter.unusedVariables false
open Go Go.Proofs
namespace Go.Proofs.YtgbheglnmdnkoaaGreatDoor.E.SF
set_option maxRecDepth 1000000 in
theorem mO6 {m:Int}:∀ n ∈ mNms,∀ o ∈ mOps,evCall (cfg1 m) 3000 0 20 [.agg [.str n, .str o.1, .str [91,97,98,93,43]]] []=mOf n o.1 [91,97,98,93,43]:=by
 intro n hn o ho
 simp only [mNms,mOps,List.mem_cons,List.not_mem_nil,or_false] at hn ho
 rcases hn with rfl | rfl | rfl <;> rcases ho with rfl | rfl | rfl | rfl <;> kernel_rfl
set_option maxRecDepth 1000000 in
theorem mO7 {m:Int}:∀ n ∈ mNms,∀ o ∈ mOps,evCall (cfg1 m) 3000 0 20 [.agg [.str n, .str o.1, .str [53,109]]] []=mOf n o.1 [53,109]:=by
 intro n hn o ho
 simp only [mNms,mOps,List.mem_cons,List.not_mem_nil,or_false] at hn ho
 rcases hn with rfl | rfl | rfl <;> rcases ho with rfl | rfl | rfl | rfl <;> kernel_rfl
theorem memo_glob {m:Int}:(cfg0 m).glob=(cfgM memo m).glob:=rfl
theorem memo_glob1 {m:Int}:(cfg0 m).glob=(cfgM memo1 m).glob:=rfl
theorem memo_glob2 {m:Int}:(cfg1 m).glob=(cfgM memo m).glob:=rfl
set_option maxRecDepth 100000 in
theorem tab1 (m:Int):TabOK Tryz.prog (cfg1 m):=tabM memo1 m fun f args r h=>by
 obtain ⟨rfl,s,rfl,hm⟩:=memo1_of h
 intro hp B w0 L w rargs hI hA
 exact memo_ok (C0:=cfg0 m) (C:=cfgM memo1 m) (k:=3000) (v:=r.1) (h1:=r.2) (tab0 m) memo_glob1 (memo_ev hm) rfl hp B w0 L w rargs hI hA
theorem mO_ev {m:Int} {n o v:List UInt8} {r:AV × List Blk} (h:mOf n o v=some r):evCall (cfg1 m) 3000 0 20 [.agg [.str n, .str o, .str v]] []=some (r.1,r.2):=by
 obtain ⟨hn,rx,nt,q,ho,hv⟩:=mOf_of h
 unfold memoL at hv
 simp only [List.mem_cons,List.not_mem_nil,or_false,Prod.mk.injEq] at hv
 rcases hv with ⟨rfl,rfl⟩ | ⟨rfl,rfl⟩ | ⟨rfl,rfl⟩ | ⟨rfl,rfl⟩ | ⟨rfl,rfl⟩ | ⟨rfl,rfl⟩ | ⟨rfl,rfl⟩ | ⟨rfl,rfl⟩
 ·exact (mO0 (m:=m) n hn _ ho).trans h
 ·exact (mO1 (m:=m) n hn _ ho).trans h
 ·exact (mO2 (m:=m) n hn _ ho).trans h
 ·exact (mO3 (m:=m) n hn _ ho).trans h
 ·exact (mO4 (m:=m) n hn _ ho).trans h
 ·exact (mO5 (m:=m) n hn _ ho).trans h
 ·exact (mO6 (m:=m) n hn _ ho).trans h
 ·exact (mO7 (m:=m) n hn _ ho).trans h
set_option maxRecDepth 100000 in
theorem tab (m:Int):TabOK Tryz.prog (cfg m):=tabM memo m fun f args r h=>by
 rcases memo_of h with ⟨rfl,s,rfl,hm⟩ | ⟨rfl,n,o,v,rfl,hm⟩
 ·intro hp B w0 L w rargs hI hA
  exact memo_ok (C0:=cfg0 m) (C:=cfgM memo m) (k:=3000) (v:=r.1) (h1:=r.2) (tab0 m) memo_glob (memo_ev hm) rfl hp B w0 L w rargs hI hA
 ·intro hp B w0 L w rargs hI hA
  exact memo_ok (C0:=cfg1 m) (C:=cfgM memo m) (k:=3000) (v:=r.1) (h1:=r.2) (tab1 m) memo_glob2 (mO_ev hm) rfl hp B w0 L w rargs hI hA
end Go.Proofs.YtgbheglnmdnkoaaGreatDoor.E.SF
namespace Go.Proofs.YtgbheglnmdnkoaaGreatDoor.E.SF
open Go Go.Proofs E E.R
theorem good (m:Int):GoodC (cfg m):=by
 refine good_of (tab m).ty (fun g v h => ?_) (ext_h (fun f e h => ?_) (fun f e h => ?_)) memoC
 ·have h:glob m g=some v:=h
  unfold glob at h
  simp only [cond_eq_ite] at h
  intro n
  split at h
  ·cases h;exact tab_c
  split at h
  ·cases h;rfl
  split at h
  ·cases h;rfl
  cases h
 ·unfold ext at h
  simp only [cond_eq_ite] at h
  split at h
  ·cases h;exact cmp_c
  split at h
  ·cases h;exact ix_c
  split at h
  ·cases h;exact fmt_c
  split at h
  ·cases h;exact pi_c (fun n=>rfl) (fun n=>rfl)
  cases h
 ·cases h
end Go.Proofs.YtgbheglnmdnkoaaGreatDoor.E.SF
namespace Go.Proofs.YtgbheglnmdnkoaaGreatDoor.E.SF
open Go
theorem rngI8 {a:Int} (h:(Lit.int .i8 a).wf=true) : -128≤a∧a≤127:=by
 simp [Lit.wf,IntKind.min,IntKind.max,IntKind.signed,IntKind.bits] at h
 exact ⟨by omega,by omega⟩
end Go.Proofs.YtgbheglnmdnkoaaGreatDoor.E.SF
namespace Go.Proofs.YtgbheglnmdnkoaaGreatDoor.E.SF
open Go Go.Proofs E E.R E.L
theorem app_y {C:Cfg} {fl n:Nat} {hp:List Blk} {x y:AV} {vs ws:List AV} {t:TypeId} (h:Gr n 3 hp x vs) (hfn:fl≤n) (hn:n≤hp.length) (hy:IsSl 3 y ws) (ht:elT C t 3 48=true) (hl:(vs.length + ws.length) * 48≤140737488355328) :
  ∃ x' hp' fp,(∀ ts,builtinE C fl false ⟨ts,hp⟩ .append [t,t] [x,y]=some ⟨.v x',ts,hp',fp⟩)∧Gr n 3 hp' x' (vs++ws)∧IsSl 3 x' (vs++ws)∧PreN n hp hp':=by
 have hy':elems hp 3 y=some ws:=by
  rcases hy with ⟨rfl,rfl⟩ | ⟨o,rfl⟩
  ·rfl
  ·exact elems_lit'
 obtain ⟨x',hp',h1,h2,_,h4⟩:=append_any h hfn hn hy' ht hl
 exact ⟨x',hp',_,h1,h2,h2.isSl,h4⟩
theorem app_y0 {C:Cfg} {fl:Nat} {hp:List Blk} {y:AV} {ws:List AV} {t:TypeId} (hy:IsSl 3 y ws) (ht:elT C t 3 48=true) (hl:ws.length≤1000) (hf:fl≤hp.length) :
  ∃ x' hp' fp,(∀ ts,builtinE C fl false ⟨ts,hp⟩ .append [t,t] [.nilS,y]=some ⟨.v x',ts,hp',fp⟩)∧Gr hp.length 3 hp' x' ws∧IsSl 3 x' ws∧hp.length≤hp'.length:=by
 obtain ⟨x',hp',fp,h1,h2,h3,h4⟩:=app_y (C:=C) (fl:=fl) (n:=hp.length) (hp:=hp) (.nil _ _ _) hf (Nat.le_refl _) hy ht (by simp;omega)
 exact ⟨x',hp',fp,h1,h2,h3,h4.1⟩
abbrev ssSt (a b:AV) (i:Nat):List TV:=[J,J,J,J,J,J,J, .v (.bool true),J,J,J,J, .v a,J,J,J,J,J,J,J,J, .v b, .v (AI i)]++List.replicate 96 J
theorem ss_i {m:Int} {fl i:Nat} {hp:List Blk} {a b:AV} {xs ys:List AV} {e f:Ea} (ha:IsSl 3 a xs) (hb:IsSl 3 b ys) (hx:xs[i]?=some (eA e)) (hy:ys[i]?=some (eA f)) (hi:i < xs.length) (hi2:i < ys.length) (hi3:i < 1000) (hs:∀ fl hp,evI (cfg m) fl 41 [eA e,eA f] hp=some (.bool true,hp)):LoopS (cfg m) fl 7 (bodyAt (cfg m) 7 18) 18 ⟨ssSt a b i,hp⟩ ⟨ssSt a b (i + 1),hp⟩:=by
 exact loopStepS (St.mk [J,J,J,J,J,J,J,TV.v (AV.bool true),J,J,J,J,TV.v a,J,J,J,J,J,J,J,J,TV.v b,TV.v (AI ((↑i:Int) + 1)),J,J,J,J,J,J,J,J,J,J,J,J,J,J,J,J,J,J,J,J,J,J,J,J,J,J,J,J,J,J,J,J,J,J,J,J,J,J,J,J,J,J,J,J,J,J,J,J,J,J,J,J,J,J,J,J,J,J,J,J,J,J,J,J,J,J,J,J,J,J,J,J,J,J,J,J,J,J,J,J,J,J,J,J,J,J,J,J,J,J,J,J,J,J,J,J] hp) [.m 18 2 (len_sl (C:=cfg m) (t:=55) (ts':=[]) (fl:=fl) (ar:=false) (hp:=hp) ha (by kernel_rfl)), .b 18 3 (decide_eq_true ((show (↑i:Int) < (↑xs.length:Int) from (by omega)))), .a 20 2 (indexAddr_sl (C:=cfg m) (t:=55) (n:=(↑i:Int)) ha (by kernel_rfl) (by omega) hx), .a 20 6 (indexAddr_sl (C:=cfg m) (t:=55) (n:=(↑i:Int)) hb (by kernel_rfl) (by omega) hy), .c 20 8 (hs (fl) (hp)), .w 19 1 IntKind.i64 ((↑i:Int) + 1) (wrap_i64' (by omega))] (by kernel_rfl) rfl
abbrev ssEnd:List TV:=[J,J,J,J,J,J,J, .v (.bool true)]++List.replicate 111 J
theorem ss_x {m:Int} {fl i:Nat} {hp:List Blk} {a b:AV} {xs:List AV} (ha:IsSl 3 a xs) (hi:xs.length=i):LoopI (cfg m) fl 7 (bodyAt (cfg m) 7 18) 18 ⟨ssSt a b i,hp⟩ (.exit 0) ⟨ssEnd,hp⟩:=by
 exact loopEndC (.exit 0) (St.mk ([J,J,J,J,J,J,J,TV.v (AV.bool true)]++Jn 111) hp) [.m 18 2 (len_sl (C:=cfg m) (t:=55) (ts':=[]) (fl:=fl) (ar:=false) (hp:=hp) ha (by kernel_rfl)), .b 18 3 (decide_eq_false ((show ¬(↑i:Int) < (↑xs.length:Int) from (by omega))))] (by kernel_rfl) (fun h=>by cases h) rfl
abbrev a0E:Ea:=(0, .nilS,[])
theorem sp_a {m:Int} {H:Nat} {at_ cut:Int} {hp1 hp2 hp3 hp4:List Blk} {l x p a b:AV} {ps us vs:List AV} (k23:∀ fl,evI (cfg m) fl 23 [] []=some (.bool true,[])) (k24:∀ fl hp,evI (cfg m) fl 24 [l, .int .i64 12] hp=some (x,hp)) (k26:∀ fl,evI (cfg m) fl 26 [x, .nilS] []=some (.ptr H 0,hp1)) (hcut:IntKind.i64.wrap (Int.tmod at_ 11)=cut) (hR1:evI (cfg m) 0 33 [.ptr H 0, .agg (askC (-12) 12 true 99 false a0E), .ptr hp1.length 0] (hp1++[.cells [.nilS]])=some (.tup [p, .bool false, .int .i64 0],hp2)) (hR2:evI (cfg m) 0 33 [.ptr H 0, .agg (askC (-12) cut true 99 false a0E), .ptr hp1.length 0] hp2=some (.tup [a, .bool false, .int .i64 0],hp3)) (hR3:evI (cfg m) 0 33 [.ptr H 0, .agg (askC cut 12 true 99 false a0E), .ptr hp1.length 0] hp3=some (.tup [b, .bool false, .int .i64 0],hp4)) (hp:IsSl 3 p ps) (ha:IsSl 3 a us) (hb:IsSl 3 b vs) (hla:us.length≤100) (hlb:vs.length≤100) (hlen:ps.length=(us++vs).length) (hlp:∀ y hp,IsSl 3 y (us++vs)→LoopI (cfg m) 0 7 (bodyAt (cfg m) 7 18) 18 ⟨ssSt p y 0,hp⟩ (.exit 0) ⟨ssEnd,hp⟩):evI (cfg m) 0 7 [l, .bool true, .int .i8 at_] []=some (.bool true,[]):=by
 obtain ⟨x'1,hp'2,fp3,e4,h5,h6,h7⟩:=(app_y0 (C:=cfg m) (fl:=0) (hp:=hp4) (t:=55) ha (by kernel_rfl) (by omega) (by omega))
 obtain ⟨x'8,hp'9,fp10,e11,h12,h13,h14⟩:=(app_y (C:=cfg m) (fl:=0) (t:=55) h5 (by omega) h7 hb (by kernel_rfl) (by omega))
 exact evX (AV.bool true) (hp'9) [.c 1 0 (k23 (0)), .c 4 1 (k24 (0) ([])), .c 4 2 (k26 (0)), .c 5 0 (ev_0 (m:=m) (fl:=0) (hp:=hp1)), .wc 8 2 IntKind.i64 (cut) (hp1++[BC [AV.nilS]]) hcut, .c 9 4 hR1, .c 10 5 hR2, .c 11 5 hR3, .m 12 1 e4, .m 12 3 e11, .m 15 12 (len_sl (C:=cfg m) (t:=55) (ts':=[]) (fl:=0) (ar:=false) (hp:=hp'9) hp (by kernel_rfl)), .m 15 14 (len_sl (C:=cfg m) (t:=55) (ts':=[]) (fl:=0) (ar:=false) (hp:=hp'9) h13 (by kernel_rfl)), .b 15 15 (bne_eq_false_iff_eq.2 ((show (↑ps.length:Int)=(↑(us++vs).length:Int) from (by omega)))), .l 18 (hlp _ (hp'9) h13)] (by kernel_rfl) (tlP (by kernel_rfl) rfl (shutT (v:=AV.bool true) (v':=AV.bool true) (by kernel_rfl))) rfl
theorem sp_d {m:Int} {H:Nat} {at_ cut:Int} {hp1 hp2 hp3 hp4:List Blk} {l x p a b:AV} {ps us vs:List AV} (k23:∀ fl,evI (cfg m) fl 23 [] []=some (.bool true,[])) (k24:∀ fl hp,evI (cfg m) fl 24 [l, .int .i64 12] hp=some (x,hp)) (k26:∀ fl,evI (cfg m) fl 26 [x, .nilS] []=some (.ptr H 0,hp1)) (hcut:IntKind.i64.wrap (Int.tmod at_ 11)=cut) (hR1:evI (cfg m) 0 33 [.ptr H 0, .agg (askC (-12) 12 false 99 false a0E), .ptr hp1.length 0] (hp1++[.cells [.nilS]])=some (.tup [p, .bool false, .int .i64 0],hp2)) (hR2:evI (cfg m) 0 33 [.ptr H 0, .agg (askC (-12) cut false 99 false a0E), .ptr hp1.length 0] hp2=some (.tup [a, .bool false, .int .i64 0],hp3)) (hR3:evI (cfg m) 0 33 [.ptr H 0, .agg (askC cut 12 false 99 false a0E), .ptr hp1.length 0] hp3=some (.tup [b, .bool false, .int .i64 0],hp4)) (hp:IsSl 3 p ps) (ha:IsSl 3 a us) (hb:IsSl 3 b vs) (hla:us.length≤100) (hlb:vs.length≤100) (hlen:ps.length=(vs++us).length) (hlp:∀ y hp,IsSl 3 y (vs++us)→LoopI (cfg m) 0 7 (bodyAt (cfg m) 7 18) 18 ⟨ssSt p y 0,hp⟩ (.exit 0) ⟨ssEnd,hp⟩):evI (cfg m) 0 7 [l, .bool false, .int .i8 at_] []=some (.bool true,[]):=by
 obtain ⟨x'1,hp'2,fp3,e4,h5,h6,h7⟩:=(app_y0 (C:=cfg m) (fl:=0) (hp:=hp4) (t:=55) ha (by kernel_rfl) (by omega) (by omega))
 obtain ⟨x'8,hp'9,fp10,e11,h12,h13,h14⟩:=(app_y (C:=cfg m) (fl:=0) (t:=55) h5 (by omega) h7 hb (by kernel_rfl) (by omega))
 obtain ⟨x'15,hp'16,fp17,e18,h19,h20,h21⟩:=(app_y0 (C:=cfg m) (fl:=0) (hp:=hp'9) (t:=55) hb (by kernel_rfl) (by omega) (by omega))
 obtain ⟨x'22,hp'23,fp24,e25,h26,h27,h28⟩:=(app_y (C:=cfg m) (fl:=0) (t:=55) h19 (by omega) h21 ha (by kernel_rfl) (by omega))
 exact evX (AV.bool true) (hp'23) [.c 1 0 (k23 (0)), .c 4 1 (k24 (0) ([])), .c 4 2 (k26 (0)), .c 5 0 (ev_0 (m:=m) (fl:=0) (hp:=hp1)), .wc 8 2 IntKind.i64 (cut) (hp1++[BC [AV.nilS]]) hcut, .c 9 4 hR1, .c 10 5 hR2, .c 11 5 hR3, .m 12 1 e4, .m 12 3 e11, .m 14 1 e18, .m 14 3 e25, .m 15 12 (len_sl (C:=cfg m) (t:=55) (ts':=[]) (fl:=0) (ar:=false) (hp:=hp'23) hp (by kernel_rfl)), .m 15 14 (len_sl (C:=cfg m) (t:=55) (ts':=[]) (fl:=0) (ar:=false) (hp:=hp'23) h27 (by kernel_rfl)), .b 15 15 (bne_eq_false_iff_eq.2 ((show (↑ps.length:Int)=(↑(vs++us).length:Int) from (by omega)))), .l 18 (hlp _ (hp'23) h27)] (by kernel_rfl) (tlP (by kernel_rfl) rfl (shutT (v:=AV.bool true) (v':=AV.bool true) (by kernel_rfl))) rfl
theorem flt_split {f c t:Int} (h1:f≤c) (h2:c≤t):∀ {r:List Ea},r.Pairwise (fun a b=>a.1≤b.1)→r.filter (fun e=>decide (f≤e.1)&&decide (e.1 < t))=r.filter (fun e=>decide (f≤e.1)&&decide (e.1 < c))++r.filter (fun e=>decide (c≤e.1)&&decide (e.1 < t))
 | [],_=>rfl
 | x::r,h=>by
  rw [List.pairwise_cons] at h
  have ih:=flt_split h1 h2 h.2
  simp only [List.filter_cons]
  by_cases hx:x.1 < c
  ·have a1:decide (c≤x.1)=false:=decide_eq_false (by omega)
   have a2:decide (x.1 < t)=true:=decide_eq_true (by omega)
   have a3:decide (x.1 < c)=true:=decide_eq_true hx
   rw [a1,a2,a3,ih]
   by_cases hf:f≤x.1
   ·rw [decide_eq_true hf];rfl
   ·rw [decide_eq_false hf];rfl
  ·have e0:r.filter (fun e=>decide (f≤e.1)&&decide (e.1 < c))=[]:=List.filter_eq_nil_iff.2 fun e he=>by
    have:=h.1 e he
    have:decide (e.1 < c)=false:=decide_eq_false (by omega)
    rw [this];simp
   have a1:decide (c≤x.1)=true:=decide_eq_true (by omega)
   have a2:decide (f≤x.1)=true:=decide_eq_true (by omega)
   have a3:decide (x.1 < c)=false:=decide_eq_false hx
   rw [a1,a2,a3,ih,e0]
   cases decide (x.1 < t) <;> rfl
theorem srt_ts {r:List Ea} (h:SrtA r):r.Pairwise fun a b=>a.1≤b.1:=by
 unfold SrtA SrtE at h
 rw [List.pairwise_map] at h
 exact h.imp fun h=>ordE_ts h
theorem sel_split {f c t:Int} {asc:Bool} {a b d:Ea} (h1:f≤c) (h2:c≤t) {r:List Ea} (h:SrtA r):selA f t asc false a (fun _=>true) r=selA f c asc false b (fun _=>true) r++selA c t asc false d (fun _=>true) r:=by
 unfold selA
 rw [← List.map_append]
 congr 1
 have e:∀ (f t:Int) (a:Ea),(fun e=>wantA f t asc false a e&&true)=fun e:Ea=>decide (f≤e.1)&&decide (e.1 < t):=fun f t a=>by
  funext e;unfold wantA;simp
 rw [e,e,e]
 exact flt_split h1 h2 (srt_ts h)
theorem rep_app {n:Nat} {hp l:List Blk} {H c:Nat} {rp:AV} {us:List Ea} (h:Rep n hp H rp c us):Rep n (hp++l) H rp c us:=by
 obtain ⟨es,h1,h2,h3⟩:=h
 refine ⟨es,blk_app h1, ?_,h3⟩
 rcases h2 with h2 | ⟨b,zs,k1,k2,k3⟩
 ·exact .inl h2
 ·exact .inr ⟨b,zs,k1,blk_app k2,k3⟩
theorem new_any {m:Int} {hp:List Blk} {us:List Ea} {rp rp':AV} {ws:List AV} (hr:rp' = .nilS∨rp' = .lit 2 .sealed ws) (h78:∀ hp',PreN hp.length hp hp'→∀ fl,evI (cfg m) fl 78 [rp] hp'=some (rp',hp')) (hl:us.length < 20) (ho:∀ t ∈ us,OkE t∧Lim t):∃ H hp' r,(∀ fl,evI (cfg m) fl 26 [valE us,rp] hp=some (.ptr H 0,hp'))∧Rep hp.length hp' H rp' 0 r∧(r.map enOf).Perm ((us.map enOf).filter rightE)∧PreN hp.length hp hp':=by
 cases us with
 | nil =>
  refine ⟨hp.length,hp++[.cells [rp', .int .i64 0, .nilS]],[],fun fl => ?_,⟨.nilS,blk_last, .inl ⟨rfl,rfl⟩,Nat.le_refl _,⟨fun t h=>(by cases h),fun t h=>(by cases h),by simp [SrtA,SrtE]⟩,fun b h=>by cases h⟩, .refl _, .app (Nat.le_refl _)⟩
  rcases hr with rfl | rfl
  ·exact ne_n0 (ws:=ws) (h78 hp (.refl _ _))
  ·exact ne_n1 (h78 hp (.refl _ _))
 | cons x us =>
  obtain ⟨H,hp',r,h1,h2⟩:=new_ok (m:=m) (fl:=0) (hp:=hp) (ow := .sealed) (us:=x::us) (rp:=rp) hr h78 (by simp) hl ho
  exact ⟨H,hp',r,fun fl=>evI_fl (.inr rfl) h1,h2⟩
theorem sel_few {f t:Int} {asc has:Bool} {a:Ea} {g:Ea→Bool} {us:List Ea} (hE:EsOK us):∀ e ∈ tellA f t asc has a g us,OkE e∧Few e:=fun e he=>by
 have:e ∈ selA f t asc has a g us:=by
  unfold tellA at he
  cases asc
  ·exact List.mem_reverse.1 he
  ·exact he
 exact ⟨(selA_pl hE e this).1,(selA_pl hE e this).2.1⟩
theorem ordA_self (e:Ea):ordA e e=0:=(totE.eq0 _ _).2 rfl
theorem ss_loop {m:Int} {fl:Nat} {hp:List Blk} {a b:AV} {T:List Ea} (ha:IsSl 3 a (T.map eA)) (hb:IsSl 3 b (T.map eA)) (hT:T.length < 1000) (hok:∀ e ∈ T,OkE e∧Few e):∀ (d i:Nat),d + i=T.length→LoopI (cfg m) fl 7 (bodyAt (cfg m) 7 18) 18 ⟨ssSt a b i,hp⟩ (.exit 0) ⟨ssEnd,hp⟩
 | 0,i,hd=>ss_x ha (by simp;omega)
 | d + 1,i,hd=>by
  have hi:i < T.length:=by omega
  have hx:(T.map eA)[i]?=some (eA T[i]):=by rw [List.getElem?_map,List.getElem?_eq_getElem hi];rfl
  obtain ⟨h1,h2⟩:=hok _ (List.getElem_mem hi)
  exact ss_i ha hb hx hx (by simpa using hi) (by simpa using hi) (by omega) (fun fl hp=>by
   have:=same_ok (m:=m) h1 h1 (.inl h2) fl hp
   rw [ordA_self] at this
   exact this) _ _ (ss_loop ha hb hT hok d (i + 1) (by omega))
theorem wrap_11 {q:Int} (h : -128≤q∧q≤127):IntKind.i64.wrap (Int.tmod q 11)=Int.tmod q 11 ∧ -11 < Int.tmod q 11∧Int.tmod q 11 < 11:=by
 have h1 : -11 < Int.tmod q 11∧Int.tmod q 11 < 11:=by
  rcases Int.le_total 0 q with hq | hq
  ·have:=Int.emod_nonneg q (by decide:(11:Int)≠0);have:=Int.emod_lt_of_pos q (by decide:(0:Int) < 11);rw [Int.tmod_eq_emod_of_nonneg hq];omega
  ·obtain ⟨n,rfl⟩:∃ n:Nat,q = -(n:Int):=⟨q.natAbs,by omega⟩
   rw [Int.neg_tmod,Int.tmod_eq_emod_of_nonneg (by omega)]
   have:=Int.emod_nonneg (n:Int) (by decide:(11:Int)≠0);have:=Int.emod_lt_of_pos (n:Int) (by decide:(0:Int) < 11);omega
 exact ⟨wrap_i64 (by omega) (by omega),h1⟩
theorem clo_argSl {sz:Nat} {x:AV} {xs:List AV} (h:ArgSl sz x xs) (hx:∀ y ∈ xs,cloA 0 y=true):cloA 0 x=true:=by
 rcases h with ⟨rfl,_⟩ | rfl
 ·rfl
 ·rw [cloA,Bool.and_eq_true]
  exact ⟨rfl,cloAs_mem.2 hx⟩
theorem clo51 {d:Nat} {l:AV} (h:Sh (cfg 0) (d + 6) 51 l):cloA 0 l=true:=by
 obtain ⟨xs,h1,_,h2⟩:=sh51 h
 refine clo_argSl h1 fun y hy => ?_
 obtain ⟨n1,x2,x2s,s3,b4,n5,x7,x7s,n7,rfl,_,⟨h3,_,h3'⟩,_,_,⟨h4,_,h4'⟩,_⟩:=sh80 (h2 y hy)
 have a:cloA 0 x2=true:=clo_argSl h3 fun z hz=>by
  obtain ⟨_,_,rfl,_⟩:=sh43 (h3' z hz);rfl
 have b:cloA 0 x7=true:=clo_argSl h4 fun z hz=>by
  obtain ⟨_,_,_,_,rfl,_⟩:=sh225 (h4' z hz);rfl
 simp [cloA,cloAs,a,b]
theorem called_thru {m:Int} {M K L H:Nat} {hp hp1:List Blk} {g:Ea→Bool} (h:Thru m M K L hp g) (hc:Called hp H hp1) (hH:H < K∨L≤H):Thru m M K L hp1 g:=h.fr (by rw [hc.1];exact h.1) fun c h1 h2=>hc.2.1 c (by omega)
theorem law_split (l:AV) (b:Bool) (a:Int) (sl:Sh (cfg 0) 8 51 l) (ha : -128≤a∧a≤127):evI (cfg 0) 0 7 [l, .bool b, .int .i8 a] []=some (.bool true,[]):=by
 obtain ⟨xs,h1,_,h2⟩:=sh51 sl
 obtain ⟨es,hI⟩:=itL_of (m:=0) h2
 have hit:=items_ok (m:=0) h1.isSl hI 12 (by decide)
 have hul:(es.take 12).length≤12:=by rw [List.length_take];omega
 have huo:∀ t ∈ es.take 12,OkE t∧Lim t:=fun t ht=>⟨(hI.ok t (List.mem_of_mem_take ht)).1,(hI.ok t (List.mem_of_mem_take ht)).2.1⟩
 generalize hus:es.take 12=us at hit hul huo
 obtain ⟨H,hp1,r,w1,w2,w3,w4⟩:=new_any (m:=0) (hp:=[]) (rp := .nilS) (rp' := .nilS) (ws:=[]) (.inl rfl) (fun hp' _ fl=>cp_n) (us:=us) (by omega) huo
 have hrl:r.length < 20:=by
  have:=w3.length_eq
  rw [List.length_map] at this
  have h3:=List.length_filter_le rightE (us.map enOf)
  rw [List.length_map] at h3
  omega
 have hE:EsOK r:=by obtain ⟨_,_,_,_,h,_⟩:=w2;exact h
 have hHl:H < hp1.length:=by obtain ⟨_,h,_⟩:=w2;exact blk_lt h
 have c1:cloA 0 (valE us)=true:=(evI_c (good 0) (hit 0 []) (by simp [cloAs,cloA,clo51 (d:=2) sl]) rfl).1
 have c2:cloH hp1.length hp1=true:=(evI_c (good 0) (w1 0) (by simp [cloAs,cloA,c1]) rfl).2.1
 have c3:cloH (hp1++[Blk.cells [.nilS]]).length (hp1++[Blk.cells [.nilS]])=true:=cloH_app (cloH_mono (by simp) c2) rfl
 have m1:Thru 0 hp1.length hp1.length (hp1.length + 1) (hp1++[Blk.cells [.nilS]]) fun _=>true:=thru_0 blk_last
 have r1:Rep 0 (hp1++[Blk.cells [.nilS]]) H .nilS 0 r:=rep_app w2
 obtain ⟨e1,q1,q2⟩:=wrap_11 ha
 generalize hcut:Int.tmod a 11=cut at e1 q1 q2
 have hm:mostA 99 0=99:=rfl
 have htl:∀ f t:Int,(tellA f t b false a0E (fun _=>true) r).length≤19:=fun f t=>by
  rw [tellA_len];have:=selA_len (f:=f) (t:=t) (asc:=b) (has:=false) (a:=a0E) (g:=fun _=>true) (us:=r);omega
 have key:∀ (c:Nat) (f t:Int) (hp:List Blk),f < t→Rep 0 hp H .nilS c r→Thru 0 hp1.length hp1.length (hp1.length + 1) hp (fun _=>true)→cloH hp.length hp=true→c < 10→∃ hp',evI (cfg 0) 0 33 [.ptr H 0, .agg (askC f t b 99 false a0E), .ptr hp1.length 0] hp=some (.tup [valE (tellA f t b false a0E (fun _=>true) r), .bool false, .int .i64 0],hp')∧Rep 0 hp' H .nilS (c + 1) r∧Thru 0 hp1.length hp1.length (hp1.length + 1) hp' (fun _=>true)∧cloH hp'.length hp'=true:=by
  intro c f t hp hft hR hM hclo hc
  obtain ⟨hp',g1,g2,g3⟩:=range_ok (m:=0) (fl:=0) (lim:=99) (k:=0) (asc:=b) (has:=false) (a:=a0E) (ws:=[]) hR hrl (Nat.le_refl _) hM (.inl hHl) hft (by decide) (fun h=>by cases h) (.nil _) (.inr ⟨Nat.zero_le _,rfl⟩) (by omega) hclo
  have t1:=htl f t
  rw [hm,List.take_of_length_le (by simpa using (by omega:(tellA f t b false a0E (fun _=>true) r).length≤99)),decide_eq_false (by omega)] at g1
  exact ⟨hp',g1,g2,called_thru hM g3 (.inl hHl),g3.2.2⟩
 obtain ⟨hp2,a1,a2,a3,a4⟩:=key 0 (-12) 12 _ (by decide) r1 m1 c3 (by decide)
 obtain ⟨hp3,b1,b2,b3,b4⟩:=key 1 (-12) cut hp2 (by omega) a2 a3 a4 (by decide)
 obtain ⟨hp4,d1,d2,d3,d4⟩:=key 2 cut 12 hp3 (by omega) b2 b3 b4 (by decide)
 have hcut':IntKind.i64.wrap (Int.tmod a 11)=cut:=by rw [hcut];exact e1
 have ssp:=sel_split (f := -12) (c:=cut) (t:=12) (asc:=b) (a:=a0E) (b:=a0E) (d:=a0E) (by omega) (by omega) hE.srt
 have hfew:=sel_few (f := -12) (t:=12) (asc:=b) (has:=false) (a:=a0E) (g:=fun _=>true) hE
 cases b with
 | true =>
  have eT:tellA (-12) 12 true false a0E (fun _=>true) r=tellA (-12) cut true false a0E (fun _=>true) r++tellA cut 12 true false a0E (fun _=>true) r:=ssp
  exact sp_a (m:=0) ex23 (fun fl hp=>hit fl hp) w1 hcut' a1 b1 d1 (valE_isl _) (valE_isl _) (valE_isl _) (by rw [List.length_map];exact Nat.le_trans (htl _ _) (by decide)) (by rw [List.length_map];exact Nat.le_trans (htl _ _) (by decide)) (by rw [← List.map_append,← eT]) (fun y hp hy=>ss_loop (valE_isl _) (by rw [eT,List.map_append];exact hy) (by have:=htl (-12) 12;omega) hfew _ 0 rfl)
 | false =>
  have eT:tellA (-12) 12 false false a0E (fun _=>true) r=tellA cut 12 false false a0E (fun _=>true) r++tellA (-12) cut false false a0E (fun _=>true) r:=by
   show (selA _ _ _ _ _ _ r).reverse=(selA _ _ _ _ _ _ r).reverse++(selA _ _ _ _ _ _ r).reverse
   rw [ssp,List.reverse_append]
  exact sp_d (m:=0) ex23 (fun fl hp=>hit fl hp) w1 hcut' a1 b1 d1 (valE_isl _) (valE_isl _) (valE_isl _) (by rw [List.length_map];exact Nat.le_trans (htl _ _) (by decide)) (by rw [List.length_map];exact Nat.le_trans (htl _ _) (by decide)) (by rw [← List.map_append,← eT]) (fun y hp hy=>ss_loop (valE_isl _) (by rw [eT,List.map_append];exact hy) (by have:=htl (-12) 12;omega) hfew _ 0 rfl)
end Go.Proofs.YtgbheglnmdnkoaaGreatDoor.E.SF
