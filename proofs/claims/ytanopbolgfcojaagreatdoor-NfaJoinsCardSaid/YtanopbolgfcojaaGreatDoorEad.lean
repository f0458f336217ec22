/- Steps of the seat's proofs: an evaluator of the program's code, its soundness, and what the functions come to. -/
import Derived.Test.YtanopbolgfcojaaGreatDoorEac
import Derived.Lib.ParseIntB
import Derived.Lib.ItoaNum
import Derived.Lib.LaidTab
import Derived.Stop.LaidErr
set_option linter.unusedSimpArgs false
set_option linter.unusedVariables false
namespace Go.Proofs.YtanopbolgfcojaaGreatDoor.E
open Go Go.RowKit Go.Lib
variable {P:Program} {C:Cfg} {fl:Nat} {me:FuncId}
def LeC (c d:CallF):Prop:=∀ f a h r,c f a h=some r→d f a h=some r
theorem LeC.refl (c:CallF):LeC c c:=fun _ _ _ _ h=>h
theorem callE_mono {c d:CallF} (h:LeC c d) {st:St} {f:FuncId} {args:List AV} {r:Res} (e:callE C c st f args=some r):callE C d st f args=some r:=by
 unfold callE at *
 split at e
 ·rename_i v hp hv;rw [h _ _ _ _ hv];exact e
 ·cases e
theorem evOp_mono {c d:CallF} (h:LeC c d) {o:Oper} {st:St} {r:Res} (e:evOp C c fl me o st=some r):evOp C d fl me o st=some r:=by
 obtain ⟨dst,op,guard⟩:=o
 cases op <;> try exact e
 rename_i cl
 unfold evOp at *
 dsimp only at *
 split at e
 ·cases e
 ·rename_i args ha
  split at e
  ·exact e
  ·rename_i f hf
   split at e
   ·exact callE_mono h e
   ·cases e
  ·cases e
theorem evOne_mono {c d:CallF} (h:LeC c d) {ops:List Oper} {o:Oper} {st:St} {r:St × Fp} (e:evOne C c fl me ops o st=some r):evOne C d fl me ops o st=some r:=by
 unfold evOne at *
 split at e
 ·split at e
  ·rename_i q hq
   rw [evOp_mono h hq];exact e
  ·cases e
 ·exact e
 ·cases e
theorem runOps_mono {c d:CallF} (h:LeC c d) {ops:List Oper}:∀ (l:List Oper) (st:St) (r:St × List Fp),runOps C c fl me ops l st=some r→runOps C d fl me ops l st=some r
 | [],st,r,e=>e
 | o::l,st,r,e=>by
  unfold runOps at *
  split at e
  ·rename_i st1 f h1
   rw [evOne_mono h h1]
   split at e
   ·rename_i st' fps h2
    simp only [runOps_mono h l st1 _ h2];exact e
   ·cases e
  ·cases e
theorem evLoop_mono {b b':St→Option (Ex × St)} {cl:St→St} (h:∀ st r,b st=some r→b' st=some r):∀ (k k':Nat) (st:St) (r:Ex × St),k≤k'→evLoop b cl k st=some r→evLoop b' cl k' st=some r
 | 0,_,_,_,_,e=>by cases e
 | k + 1,0,_,_,hk,_=>by omega
 | k + 1,k' + 1,st,r,hk,e=>by
  unfold evLoop at *
  split at e
  ·rename_i st' h1
   rw [h _ _ h1];exact evLoop_mono h k k' st' r (by omega) e
  ·rename_i hne
   have:=h _ _ e
   rw [this]
   obtain ⟨x,s⟩:=r
   cases x
   ·exact absurd e (hne s)
   ·rfl
   ·rfl
theorem evLoopC_mono {b b':St→Option (Ex × St)} {cl:St→St} (h:∀ st r,b st=some r→b' st=some r):∀ (k k':Nat) (st:St) (r:Ex × St),k≤k'→evLoopC b cl k st=some r→evLoopC b' cl k' st=some r
 | 0,_,_,_,_,e=>by cases e
 | k + 1,0,_,_,hk,_=>by omega
 | k + 1,k' + 1,st,r,hk,e=>by
  unfold evLoopC at *
  split at e
  ·rename_i st' h1
   rw [h _ _ h1];exact evLoopC_mono h k k' _ r (by omega) e
  ·rename_i hne
   have:=h _ _ e
   rw [this]
   obtain ⟨x,s⟩:=r
   cases x
   ·exact absurd e (hne s)
   ·rfl
   ·rfl
theorem run_mono {c d:CallF} (h:LeC c d) {k k':Nat} (hk:k≤k'):∀ (x:Code) (st:St) (r:Ex × St),run C c fl me k x st=some r→run C d fl me k' x st=some r
 | .skip,st,r,e=>e
 | .exit id,st,r,e=>e
 | .ret,st,r,e=>e
 | .region id ops draw,st,r,e=>by
  simp only [run] at *
  split at e
  ·rename_i st' fps h1
   rw [runOps_mono h _ _ _ h1];exact e
  ·cases e
 | .seq x y,st,r,e=>by
  simp only [run] at *
  split at e
  ·rename_i st' h1
   rw [run_mono h hk x st _ h1];exact run_mono h hk y st' r e
  ·rename_i hne
   rw [run_mono h hk x st _ e]
   obtain ⟨q,s⟩:=r
   cases q
   ·exact absurd e (hne s)
   ·rfl
   ·rfl
 | .cond t x y,st,r,e=>by
  simp only [run] at *
  split at e
  ·rename_i b hb
   cases b
   ·exact run_mono h hk y st r e
   ·exact run_mono h hk x st r e
  ·cases e
 | .block id x,st,r,e=>by
  simp only [run] at *
  split at e
  ·rename_i j st' h1
   rw [run_mono h hk x st _ h1];exact e
  ·rename_i hne
   rw [run_mono h hk x st _ e]
   obtain ⟨q,s⟩:=r
   cases q
   ·rfl
   ·exact absurd e (hne _ s)
   ·rfl
 | .loop x,st,r,e=>by
  simp only [run] at *
  split at e
  ·rename_i q st' h1
   rw [evLoop_mono (fun st r=>run_mono h hk x st r) _ _ _ _ hk h1];exact e
  ·cases e
 | .rangeFunc ..,st,r,e=>by simp [run] at e
 | .scope ..,st,r,e=>by simp [run] at e
 | .label ..,st,r,e=>by simp [run] at e
 | .goto ..,st,r,e=>by simp [run] at e
 | .refuse ..,st,r,e=>by simp [run] at e
theorem evCall_succ:∀ (k:Nat) (fl:Nat),LeC (evCall C k fl) (evCall C (k + 1) fl)
 | 0,fl=>fun f a h r e=>by cases e
 | k + 1,fl=>fun f args hp r e=>by
  unfold evCall at e ⊢
  split at e
  ·exact e
  ·rename_i he
   split at e
   ·cases e
   ·rename_i fi hfi
    dsimp only at *
    split at e
    ·cases e
    ·rename_i e' st hne hr
     have h2:=run_mono (evCall_succ k _) (Nat.le_succ k) _ _ _ hr
     rw [h2]
     cases e' with
     | exit j=>exact absurd rfl (hne j)
     | normal=>exact e
     | ret=>exact e
    ·cases e
theorem evCall_mono {k k' fl:Nat} (h:k≤k'):LeC (evCall C k fl) (evCall C k' fl):=by
 induction h with
 | refl=>exact LeC.refl _
 | step _ ih=>exact fun f a h r e=>evCall_succ _ _ _ _ _ _ (ih _ _ _ _ e)
open Classical in
noncomputable def evI (C:Cfg) (fl:Nat):CallF:=fun f a h=>if H:∃ k r,evCall C k fl f a h=some r then evCall C H.choose fl f a h else none
theorem evI_of {k fl:Nat} {f:FuncId} {a:List AV} {h:List Blk} {r:AV × List Blk} (e:evCall C k fl f a h=some r):evI C fl f a h=some r:=by
 have H:∃ k r,evCall C k fl f a h=some r:=⟨k,r,e⟩
 unfold evI
 rw [dif_pos H]
 obtain ⟨r',h'⟩:=H.choose_spec
 rcases Nat.le_total k H.choose with hh | hh
 ·exact evCall_mono hh _ _ _ _ e
 ·have:=evCall_mono hh _ _ _ _ h'
  rw [e] at this;rw [h'];exact this.symm
theorem evI_to {fl:Nat} {f:FuncId} {a:List AV} {h:List Blk} {r:AV × List Blk} (e:evI C fl f a h=some r):∃ k,∀ k',k≤k'→evCall C k' fl f a h=some r:=by
 unfold evI at e
 split at e
 ·rename_i H
  exact ⟨H.choose,fun k' hk=>evCall_mono hk _ _ _ _ e⟩
 ·cases e
theorem evOp_lim {o:Oper} {st:St} {r:Res} (e:evOp C (evI C fl) fl me o st=some r):∃ k,∀ k',k≤k'→evOp C (evCall C k' fl) fl me o st=some r:=by
 obtain ⟨dst,op,guard⟩:=o
 cases op <;> try exact ⟨0,fun _ _=>e⟩
 rename_i cl
 unfold evOp at *
 dsimp only at *
 split at e
 ·cases e
 ·rename_i args ha
  split at e
  ·exact ⟨0,fun _ _=>e⟩
  ·rename_i f hf
   split at e
   ·rename_i g fi ca hg
    unfold callE at e ⊢
    split at e
    ·rename_i v hp hv
     obtain ⟨k,hk⟩:=evI_to hv
     exact ⟨k,fun k' h'=>by rw [hk k' h'];exact e⟩
    ·cases e
   ·cases e
  ·cases e
theorem evOne_lim {ops:List Oper} {o:Oper} {st:St} {r:St × Fp} (e:evOne C (evI C fl) fl me ops o st=some r):∃ k,∀ k',k≤k'→evOne C (evCall C k' fl) fl me ops o st=some r:=by
 unfold evOne at *
 split at e
 ·split at e
  ·rename_i q hq
   obtain ⟨k,hk⟩:=evOp_lim hq
   exact ⟨k,fun k' h'=>by rw [hk k' h'];exact e⟩
  ·cases e
 ·exact ⟨0,fun _ _=>e⟩
 ·cases e
theorem runOps_lim {ops:List Oper}:∀ (l:List Oper) (st:St) (r:St × List Fp),runOps C (evI C fl) fl me ops l st=some r→∃ k,∀ k',k≤k'→runOps C (evCall C k' fl) fl me ops l st=some r
 | [],st,r,e=>⟨0,fun _ _=>e⟩
 | o::l,st,r,e=>by
  unfold runOps at *
  split at e
  ·rename_i st1 f h1
   obtain ⟨k,hk⟩:=evOne_lim h1
   split at e
   ·rename_i st' fps h2
    obtain ⟨k2,hk2⟩:=runOps_lim l st1 _ h2
    exact ⟨max k k2,fun k' h'=>by rw [hk k' (by omega)];simp only [hk2 k' (by omega)];exact e⟩
   ·cases e
  ·cases e
theorem evLoop_lim {b:St→Option (Ex × St)} {b':Nat→St→Option (Ex × St)} {cl:St→St} (h:∀ st r,b st=some r→∃ k,∀ k',k≤k'→b' k' st=some r):∀ (n:Nat) (st:St) (r:Ex × St),evLoop b cl n st=some r→∃ k,∀ k',k≤k'→evLoop (b' k') cl n st=some r
 | 0,_,_,e=>by cases e
 | n + 1,st,r,e=>by
  unfold evLoop at *
  split at e
  ·rename_i st' h1
   obtain ⟨k,hk⟩:=h _ _ h1
   obtain ⟨k2,hk2⟩:=evLoop_lim h n st' r e
   exact ⟨max k k2,fun k' h'=>by rw [hk k' (by omega)];exact hk2 k' (by omega)⟩
  ·rename_i hne
   obtain ⟨k,hk⟩:=h _ _ e
   refine ⟨k,fun k' h' => ?_⟩
   rw [hk k' h']
   obtain ⟨x,s⟩:=r
   cases x
   ·exact absurd e (hne s)
   ·rfl
   ·rfl
theorem run_lim {n:Nat}:∀ (x:Code) (st:St) (r:Ex × St),run C (evI C fl) fl me n x st=some r→∃ k,∀ k',k≤k'→run C (evCall C k' fl) fl me n x st=some r
 | .skip,st,r,e=>⟨0,fun _ _=>e⟩
 | .exit id,st,r,e=>⟨0,fun _ _=>e⟩
 | .ret,st,r,e=>⟨0,fun _ _=>e⟩
 | .region id ops draw,st,r,e=>by
  simp only [run] at *
  split at e
  ·rename_i st' fps h1
   obtain ⟨k,hk⟩:=runOps_lim _ _ _ h1
   exact ⟨k,fun k' h'=>by rw [hk k' h'];exact e⟩
  ·cases e
 | .seq x y,st,r,e=>by
  simp only [run] at *
  split at e
  ·rename_i st' h1
   obtain ⟨k,hk⟩:=run_lim x st _ h1
   obtain ⟨k2,hk2⟩:=run_lim y st' r e
   exact ⟨max k k2,fun k' h'=>by rw [hk k' (by omega)];exact hk2 k' (by omega)⟩
  ·rename_i hne
   obtain ⟨k,hk⟩:=run_lim x st _ e
   refine ⟨k,fun k' h' => ?_⟩
   rw [hk k' h']
   obtain ⟨q,s⟩:=r
   cases q
   ·exact absurd e (hne s)
   ·rfl
   ·rfl
 | .cond t x y,st,r,e=>by
  simp only [run] at *
  split at e
  ·rename_i b hb
   cases b
   ·exact run_lim y st r e
   ·exact run_lim x st r e
  ·cases e
 | .block id x,st,r,e=>by
  simp only [run] at *
  split at e
  ·rename_i j st' h1
   obtain ⟨k,hk⟩:=run_lim x st _ h1
   exact ⟨k,fun k' h'=>by rw [hk k' h'];exact e⟩
  ·rename_i hne
   obtain ⟨k,hk⟩:=run_lim x st _ e
   refine ⟨k,fun k' h' => ?_⟩
   rw [hk k' h']
   obtain ⟨q,s⟩:=r
   cases q
   ·rfl
   ·exact absurd e (hne _ s)
   ·rfl
 | .loop x,st,r,e=>by
  simp only [run] at *
  split at e
  ·rename_i q st' h1
   obtain ⟨k,hk⟩:=evLoop_lim (b':=fun k'=>run C (evCall C k' fl) fl me n x) (fun st r=>run_lim x st r) _ _ _ h1
   exact ⟨k,fun k' h'=>by rw [hk k' h'];exact e⟩
  ·cases e
 | .rangeFunc ..,st,r,e=>by simp [run] at e
 | .scope ..,st,r,e=>by simp [run] at e
 | .label ..,st,r,e=>by simp [run] at e
 | .goto ..,st,r,e=>by simp [run] at e
 | .refuse ..,st,r,e=>by simp [run] at e
def RunK (C:Cfg) (fl:Nat) (me:FuncId) (x:Code) (st:St) (e:Ex) (st':St):Prop:=∃ n,run C (evI C fl) fl me n x st=some (e,st')
def LoopI (C:Cfg) (fl:Nat) (me:FuncId) (b:Code) (r:Nat) (st:St) (e:Ex) (st':St):Prop:=∃ n,loopN C (evI C fl) fl me n b r n st=some (e,st')
noncomputable def runQ (C:Cfg) (fl:Nat) (me:FuncId) (π:List (Nat × Nat × Ora)):Code→St→Option (Ex × St × List Prop)
 | .skip,st=>some (.normal,st,[])
 | .region id ops draw,st=>match runOpsP C (evI C fl) fl me ops.toList π id 0 ops.toList st with
  | some (st',fps,φs)=>bif !draw||noClash fps (C.pairs me id) then some (.normal,st',φs) else none
  | none=>none
 | .seq a b,st=>match runQ C fl me π a st with
  | some (.normal,st',φs)=>match runQ C fl me π b st' with
   | some (e,st'',ψs)=>some (e,st'',φs++ψs)
   | none=>none
  | r=>r
 | .cond c a b,st=>match opv C st.tmps c with
  | some (.bool t)=>bif t then runQ C fl me π a st else runQ C fl me π b st
  | _=>none
 | .block id b,st=>match runQ C fl me π b st with
  | some (.exit j,st',φs)=>bif Nat.beq j id then some (.normal,st',φs) else some (.exit j,st',φs)
  | r=>r
 | .loop b,st=>match find2 (firstReg b) 1000000 π with
  | some (.loop e st')=>some (e,st',[LoopI C fl me b (firstReg b) (cleanSt (C.loop me (firstReg b)) st) e st'])
  | _=>none
 | .exit id,st=>some (.exit id,st,[])
 | .ret,st=>some (.ret,st,[])
 | _,_=>none
theorem runQ_ok {π:List (Nat × Nat × Ora)}:∀ (c:Code) (st st':St) (e:Ex) (φs:List Prop),runQ C fl me π c st=some (e,st',φs)→allP φs→RunK C fl me c st e st'
 | .skip,st,st',e,φs,h,_=>by simp only [runQ,Option.some.injEq,Prod.mk.injEq] at h;obtain ⟨rfl,rfl,_⟩:=h;exact ⟨0,rfl⟩
 | .exit id,st,st',e,φs,h,_=>by simp only [runQ,Option.some.injEq,Prod.mk.injEq] at h;obtain ⟨rfl,rfl,_⟩:=h;exact ⟨0,rfl⟩
 | .ret,st,st',e,φs,h,_=>by simp only [runQ,Option.some.injEq,Prod.mk.injEq] at h;obtain ⟨rfl,rfl,_⟩:=h;exact ⟨0,rfl⟩
 | .region id ops draw,st,st',e,φs,h,hφ=>by
  simp only [runQ] at h
  split at h
  ·rename_i st1 fps ψ h1
   cases hb:(!draw||noClash fps (C.pairs me id)) with
   | false=>rw [hb] at h;cases h
   | true =>
    rw [hb,cond_true rfl] at h
    cases h
    exact ⟨0,by simp only [run,runOpsP_ok _ 0 st st' fps φs h1 hφ,hb,cond_true rfl]⟩
  ·cases h
 | .seq x y,st,st',e,φs,h,hφ=>by
  simp only [runQ] at h
  split at h
  ·rename_i st1 ψ h1
   split at h
   ·rename_i e2 st2 χ h2
    cases h
    obtain ⟨g1,g2⟩:=allP_append.1 hφ
    obtain ⟨n,hn⟩:=runQ_ok x st st1 .normal ψ h1 g1
    obtain ⟨m,hm⟩:=runQ_ok y st1 st' e χ h2 g2
    refine ⟨max n m, ?_⟩
    simp only [run,run_mono (LeC.refl _) (Nat.le_max_left n m) x st _ hn]
    exact run_mono (LeC.refl _) (Nat.le_max_right n m) y st1 _ hm
   ·cases h
  ·rename_i hne
   obtain ⟨n,hn⟩:=runQ_ok x st st' e φs h hφ
   refine ⟨n, ?_⟩
   simp only [run,hn]
   cases e with
   | normal=>exact absurd h (hne st' φs)
   | exit id=>rfl
   | ret=>rfl
 | .cond c x y,st,st',e,φs,h,hφ=>by
  simp only [runQ] at h
  split at h
  ·rename_i t ht
   cases t with
   | true=>obtain ⟨n,hn⟩:=runQ_ok x st st' e φs h hφ;exact ⟨n,by simp only [run,ht];exact hn⟩
   | false=>obtain ⟨n,hn⟩:=runQ_ok y st st' e φs h hφ;exact ⟨n,by simp only [run,ht];exact hn⟩
  ·cases h
 | .block id x,st,st',e,φs,h,hφ=>by
  simp only [runQ] at h
  split at h
  ·rename_i j st1 ψ h1
   cases hj:Nat.beq j id with
   | true =>
    rw [hj,cond_true rfl] at h;cases h
    have:(j==id)=true:=by simpa using Nat.eq_of_beq_eq_true hj
    obtain ⟨n,hn⟩:=runQ_ok x st st' (.exit j) φs h1 hφ
    exact ⟨n,by simp only [run,hn,this,cond_true rfl]⟩
   | false =>
    rw [hj,cond_false rfl] at h;cases h
    have:(j==id)=false:=by simpa using Nat.ne_of_beq_eq_false hj
    obtain ⟨n,hn⟩:=runQ_ok x st st' (.exit j) φs h1 hφ
    exact ⟨n,by simp only [run,hn,this,cond_false rfl]⟩
  ·rename_i hne
   obtain ⟨n,hn⟩:=runQ_ok x st st' e φs h hφ
   refine ⟨n, ?_⟩
   simp only [run,hn]
   cases e with
   | normal=>rfl
   | exit j=>exact absurd h (hne j st' φs)
   | ret=>rfl
 | .loop x,st,st',e,φs,h,hφ=>by
  simp only [runQ] at h
  split at h
  ·cases h
   obtain ⟨n,hφ⟩:=(allP_cons.1 hφ).1
   unfold loopN at hφ
   simp only [Option.map_eq_some_iff,Prod.mk.injEq] at hφ
   obtain ⟨p,h1,h2,h3⟩:=hφ
   obtain ⟨e',st0⟩:=p
   dsimp only at h2 h3
   subst h2
   exact ⟨n,by simp only [run,evLoopC_ok,h1,h3]⟩
  ·cases h
 | .rangeFunc ..,st,st',e,φs,h,_=>by simp [runQ] at h
 | .scope ..,st,st',e,φs,h,_=>by simp [runQ] at h
 | .label ..,st,st',e,φs,h,_=>by simp [runQ] at h
 | .goto ..,st,st',e,φs,h,_=>by simp [runQ] at h
 | .refuse ..,st,st',e,φs,h,_=>by simp [runQ] at h
structure Ask where
 i:Nat
 j:Nat
 o:Ora
 p:Prop
 h:p
def Ask.key (a:Ask):Nat × Nat × Ora:=(a.i,a.j,a.o)
theorem allP_ask:∀ π:List Ask,allP (π.map Ask.p)
 | []=>trivial
 | a::l=>allP_cons.2 ⟨a.h,allP_ask l⟩
noncomputable def runW' (C:Cfg) (fl:Nat) (π:List (Nat × Nat × Ora)) (f:FuncId) (args:List AV) (hp:List Blk):Option (List AV × List Blk × List Prop) :=
 match C.ext f with
 | some _=>none
 | none=>match C.code f with
  | none=>none
  | some fi=>match runQ C fl f π fi.body ⟨args.map .v++List.replicate (fi.ntmps - args.length) .sk,hp⟩ with
   | some (.exit _,_)=>none
   | some (_,st,φs)=>match resultsE C st fi.results with
    | none=>none
    | some rs=>some (rs,st.hp,φs)
   | none=>none
def unone:AV→List AV
 | .tup vs=>vs
 | v=>[v]
theorem evXr {fl:Nat} {f:FuncId} {args:List AV} {hp:List Blk} {R:Option (AV × List Blk)} {r:AV × List Blk} (rs:List AV) (hpF:List Blk) (π:List Ask)
  (h:runW' C (flAt C f fl hp) (π.map Ask.key) f args hp=some (rs,hpF,π.map Ask.p)) (ht:tailE C f hp hpF rs=some r) (hr:some r=R):evI C fl f args hp=R:=by
 subst hr
 unfold runW' at h
 split at h
 ·cases h
 ·rename_i he
  split at h
  ·cases h
  ·rename_i fi hfi
   split at h
   ·cases h
   ·rename_i e st ψ hne hr
    split at h
    ·cases h
    ·rename_i rs' hrs
     simp only [Option.some.injEq,Prod.mk.injEq] at h
     obtain ⟨rfl,rfl,rfl⟩:=h
     obtain ⟨n,hn⟩:=runQ_ok _ _ _ _ _ hr (allP_ask π)
     obtain ⟨k,hk⟩:=run_lim _ _ _ hn
     have hR:=run_mono (evCall_mono (Nat.le_max_right n k)) (Nat.le_max_left n k) _ _ _ (hk k (Nat.le_refl _))
     refine evI_of (k:=max n k + 1) ?_
     unfold evCall
     rw [he]
     dsimp only
     rw [hfi]
     dsimp only
     unfold flAt at hR
     unfold tailE at ht
     cases hkd:C.kind f <;> simp only [hkd] at hR ht ⊢ <;> rw [hR] <;> cases e <;> first | exact absurd rfl (hne _) | (simp only [hrs];exact ht)
   ·cases h
theorem evX {fl:Nat} {f:FuncId} {args:List AV} {hp:List Blk} {R:Option (AV × List Blk)} {r:AV × List Blk} (v:AV) (hpF:List Blk) (π:List Ask)
  (h:runW' C (flAt C f fl hp) (π.map Ask.key) f args hp=some (unone v,hpF,π.map Ask.p)) (ht:tailE C f hp hpF (unone v)=some r) (hr:some r=R):evI C fl f args hp=R:=evXr _ hpF π h ht hr
theorem evX1 {fl:Nat} {f:FuncId} {args:List AV} {hp:List Blk} {R:Option (AV × List Blk)} {r:AV × List Blk} (v:AV) (hpF:List Blk) (π:List Ask)
  (h:runW' C (flAt C f fl hp) (π.map Ask.key) f args hp=some ([v],hpF,π.map Ask.p)) (ht:tailE C f hp hpF [v]=some r) (hr:some r=R):evI C fl f args hp=R:=evXr _ hpF π h ht hr
theorem loopStep {b:Code} {r:Nat} {st st1 st2 st':St} {e:Ex} (π:List Ask) (h:runQ C fl me (π.map Ask.key) b st=some (.normal,st1,π.map Ask.p)) (hc:cleanSt (C.loop me r) st1=st2)
  (hn:LoopI C fl me b r st2 e st'):LoopI C fl me b r st e st':=by
 subst hc
 obtain ⟨n,hn1⟩:=runQ_ok _ _ _ _ _ h (allP_ask π)
 obtain ⟨m,hm⟩:=hn
 unfold loopN at hm
 simp only [Option.map_eq_some_iff] at hm
 obtain ⟨q,h1,h2⟩:=hm
 refine ⟨max n m + 1, ?_⟩
 unfold loopN
 have hb:∀ st r,run C (evI C fl) fl me m b st=some r→run C (evI C fl) fl me (max n m + 1) b st=some r:=fun st r=>run_mono (LeC.refl _) (by omega) b st r
 rw [show evLoopC (run C (evI C fl) fl me (max n m + 1) b) (cleanSt (C.loop me r)) (max n m + 1) st=some q from ?_,← h2];rfl
 have h3:=run_mono (LeC.refl _) (by omega:n≤max n m + 1) b st _ hn1
 show (match run C (evI C fl) fl me (max n m + 1) b st with
  | some (.normal,st')=>evLoopC (run C (evI C fl) fl me (max n m + 1) b) (cleanSt (C.loop me r)) (max n m) (cleanSt (C.loop me r) st')
  | r=>r)=some q
 rw [h3]
 exact evLoopC_mono hb m _ _ _ (by omega) h1
theorem loopEnd {b:Code} {r:Nat} {st st1 st':St} {e:Ex} (π:List Ask) (h:runQ C fl me (π.map Ask.key) b st=some (e,st1,π.map Ask.p)) (hc:cleanSt (C.after me r) st1=st') (he:e ≠ .normal) :
  LoopI C fl me b r st e st':=by
 subst hc
 obtain ⟨n,hn1⟩:=runQ_ok _ _ _ _ _ h (allP_ask π)
 refine ⟨n + 1, ?_⟩
 unfold loopN
 have h3:=run_mono (LeC.refl _) (by omega:n≤n + 1) b st _ hn1
 rw [show evLoopC (run C (evI C fl) fl me (n + 1) b) (cleanSt (C.loop me r)) (n + 1) st=some (e,st1) from ?_];rfl
 show (match run C (evI C fl) fl me (n + 1) b st with
  | some (.normal,st')=>evLoopC (run C (evI C fl) fl me (n + 1) b) (cleanSt (C.loop me r)) n (cleanSt (C.loop me r) st')
  | r=>r)=some (e,st1)
 rw [h3]
 cases e with
 | normal=>exact absurd rfl he
 | exit _=>rfl
 | ret=>rfl
@[reducible] def AI (n:Int):AV := .int .i64 n
@[reducible] def AU (n:Int):AV := .int .u8 n
@[reducible] def AW (n:Int):AV := .int .u64 n
@[reducible] def J:TV := .junk
@[reducible] def BC (cs:List AV):Blk := .cells cs
namespace Ask
def b (i j:Nat) {c v:Bool} (h:c=v):Ask:=⟨i,j, .val (.bool v),some (AV.bool c)=some (AV.bool v),by rw [h]⟩
def w (i j:Nat) (k:IntKind) (n:Int) {x:Int} (h:x=n):Ask:=⟨i,j, .val (.int k n),some (AV.int k x)=some (AV.int k n),by rw [h]⟩
def wc (i j:Nat) (k:IntKind) (n:Int) (hp:List Blk) {x:Int} (h:x=n):Ask:=⟨i,j, .mem (.int k n) hp .z,∀ ts:List TV,some (Res.mk (.v (.int k x)) ts hp .z)=some (Res.mk (.v (.int k n)) ts hp .z),fun ts=>by rw [h]⟩
def v (i j:Nat) {x:Option AV} {a:AV} (h:x=some a):Ask:=⟨i,j, .val a,x=some a,h⟩
def a (i j:Nat) {x:Option TV} {a:AV} (h:x=some (.v a)):Ask:=⟨i,j, .val a,x=some (.v a),h⟩
def c (i j:Nat) {C:Cfg} {fl:Nat} {g:FuncId} {args:List AV} {hp hp':List Blk} {v:AV} (h:evI C fl g args hp=some (v,hp')):Ask:=⟨i,j, .res v hp',evI C fl g args hp=some (v,hp'),h⟩
def l (r:Nat) {C:Cfg} {fl:Nat} {me:FuncId} {b:Code} {r':Nat} {st st':St} {e:Ex} (h:LoopI C fl me b r' st e st'):Ask:=⟨r,1000000, .loop e st',LoopI C fl me b r' st e st',h⟩
def m (i j:Nat) {x:List TV→Option Res} {v:AV} {hp:List Blk} {fp:Fp} (h:∀ ts,x ts=some ⟨.v v,ts,hp,fp⟩):Ask:=⟨i,j, .mem v hp fp,∀ ts,x ts=some ⟨.v v,ts,hp,fp⟩,h⟩
def s (i j:Nat) {x:List TV→Option AV} {v:AV} (hp:List Blk) (fp:Fp) (h:∀ ts,x ts=some v):Ask:=⟨i,j, .mem v hp fp,(∀ ts,x ts=some v)∧hp=hp∧fp=fp,⟨h,rfl,rfl⟩⟩
def t (i j:Nat) {x:List TV→Option Res} {hp:List Blk} {fp:Fp} (h:∀ ts,x ts=some ⟨.sk,ts,hp,fp⟩):Ask:=⟨i,j, .sto hp fp,∀ ts,x ts=some ⟨.sk,ts,hp,fp⟩,h⟩
def lb (i j:Nat) (hp:List Blk) (sl:Nat) {c v:Bool} (h:c=v):Ask:=⟨i,j, .mem (.bool v) hp (.lr sl),some (AV.bool c)=some (AV.bool v)∧hp=hp∧Fp.lr sl=Fp.lr sl,by rw [h];exact ⟨rfl,rfl,rfl⟩⟩
def cb (i j:Nat) {C:Cfg} {fl:Nat} {g:FuncId} {args:List AV} {hp hp':List Blk} {c v:Bool} (h:evI C fl g args hp=some (.bool c,hp')) (e:c=v):Ask:=⟨i,j, .res (.bool v) hp',evI C fl g args hp=some (.bool v,hp'),e ▸ h⟩
def mb (i j:Nat) {x:List TV→Option Res} {c v:Bool} {hp:List Blk} {fp:Fp} (h:∀ ts,x ts=some ⟨.v (.bool c),ts,hp,fp⟩) (e:c=v):Ask:=⟨i,j, .mem (.bool v) hp fp,∀ ts,x ts=some ⟨.v (.bool v),ts,hp,fp⟩,e ▸ h⟩
def vb (i j:Nat) {x:Option AV} {c v:Bool} (h:x=some (.bool c)) (e:c=v):Ask:=⟨i,j, .val (.bool v),x=some (.bool v),e ▸ h⟩
end Ask
theorem bcases (b:Bool):b=true∨b=false:=by cases b <;> simp
theorem wrap_i64' {n:Int} (h : -9223372036854775808≤n∧n≤9223372036854775807):IntKind.wrap .i64 n=n:=wrap_i64 h.1 h.2
theorem wrap_u8' {n:Int} (h:0≤n∧n < 256):IntKind.wrap .u8 n=n:=wrap_u8 h.1 h.2
def gb (s:List UInt8) (i:Nat):UInt8:=s.getD i 0
theorem index_gb {t:TypeId} {s:List UInt8} {n:Int} (ht:isStr C t=true) (h0:0≤n) (h:n < s.length):indexE C t (.str s) n=some (.int .u8 (gb s n.toNat).toNat):=by
 refine index_str ht h0 ?_
 unfold gb
 rw [List.getD_eq_getElem?_getD,List.getElem?_eq_getElem (by omega)];rfl
theorem slice_strI {t:TypeId} {s:List UInt8} {k k':IntKind} {n m:Int} {hp:List Blk} (ht:isStr C t=true) (h0:0≤n) (h1:n≤m) (h2:m≤s.length):∀ ts,sliceE C ⟨ts,hp⟩ t (.v (.str s)) (some (.int k n)) (some (.int k' m)) none=some (.str ((s.drop n.toNat).take (m.toNat - n.toNat))) :=
 fun _=>slice_str ht h0 h1 h2 _
def isSlcT (C:Cfg) (t:TypeId) (sz:Nat):Bool:=match C.ty t with
 | some ⟨.slice e,_,_,_,_⟩=>(match C.ty e with | some ei=>sz==ei.size | none=>false)
 | _=>false
theorem indexAddr_arr {t:TypeId} {sz b off len:Nat} {n:Int} (ht:isSlcT C t sz=true) (h0:0≤n) (h:n < len):indexAddr C t (.v (.arr sz b off len)) n=some (.v (.ptr b (off + n.toNat * sz))):=by
 unfold isSlcT at ht
 split at ht
 ·rename_i e _ _ _ _ h1
  split at ht
  ·rename_i ei h2
   unfold indexAddr
   rw [decide_eq_false (by omega),cond_false rfl]
   simp only [h1,h2,ht,decide_eq_true h,Bool.and_self,cond_true rfl]
  ·cases ht
 ·cases ht
theorem indexAddr_lit {t:TypeId} {sz:Nat} {own:Own} {xs:List AV} {n:Int} {x:AV} (ht:isSlcT C t sz=true) (h0:0≤n) (h:xs[n.toNat]?=some x):indexAddr C t (.v (.lit sz own xs)) n=some (.v (.rop x)):=by
 unfold isSlcT at ht
 split at ht
 ·rename_i e _ _ _ _ h1
  split at ht
  ·rename_i ei h2
   unfold indexAddr
   rw [decide_eq_false (by omega),cond_false rfl]
   simp only [h1,h2,ht,cond_true rfl,getAt_eq,h,Option.map_some]
  ·cases ht
 ·cases ht
theorem take_appL {hp rest:List Blk} {n:Nat} (h:n≤hp.length):(hp++rest).take n=hp.take n:=by
 rw [List.take_append_of_le_length h]
theorem tlK {f:FuncId} {hp hpF:List Blk} {v:AV} (hk:C.kind f = .keep) (ho:one (unone v)=v):tailE C f hp hpF (unone v)=some (v,hpF):=by rw [tail_keep hk,ho]
theorem tlP {f:FuncId} {hp hpF:List Blk} {v v':AV} (hk:C.kind f = .pure) (ho:one (unone v)=v) (hs:shutV hpF hp.length 100000 v=some v'):tailE C f hp hpF (unone v)=some (v',hp):=tail_pure hk (by rw [ho];exact hs)
theorem tlK1 {f:FuncId} {hp hpF:List Blk} {v:AV} (hk:C.kind f = .keep):tailE C f hp hpF [v]=some (v,hpF):=tail_keep hk
theorem tlP1 {f:FuncId} {hp hpF:List Blk} {v v':AV} (hk:C.kind f = .pure) (hs:shutV hpF hp.length 100000 v=some v'):tailE C f hp hpF [v]=some (v',hp):=tail_pure hk hs
theorem tlM {f:FuncId} {hp hpF hp':List Blk} {v v':AV} (hk:C.kind f = .mut) (ho:one (unone v)=v) (ht:hpF.take hp.length=hp') (hc:cloH hp.length hp'=true) (hs:shutV hpF hp.length 100000 v=some v'):tailE C f hp hpF (unone v)=some (v',hp'):=tail_mut hk ht hc (by rw [ho];exact hs)
theorem beqU {x y:UInt8} (h:x=y):((x.toNat:Int)==(y.toNat:Int))=true:=by rw [h];simp
theorem bneU {x y:UInt8} (h:¬ x=y):((x.toNat:Int)==(y.toNat:Int))=false:=by
 rw [beq_eq_false_iff_ne];intro e;exact h (UInt8.toNat_inj.1 (by omega))
theorem beqUL {x:UInt8} (y:UInt8) {n:Int} (hy:(y.toNat:Int)=n) (h:x=y):((x.toNat:Int)==n)=true:=by subst hy;exact beqU h
theorem bneUL {x:UInt8} (y:UInt8) {n:Int} (hy:(y.toNat:Int)=n) (h:¬ x=y):((x.toNat:Int)==n)=false:=by subst hy;exact bneU h
theorem shutT {hp:List Blk} {n:Nat} {v v':AV} (h:shutV hp n 100000 v=some v'):shutV hp n 100000 v=some v':=h
def LoopS (C:Cfg) (fl:Nat) (me:FuncId) (b:Code) (r:Nat) (st st2:St):Prop:=∀ e st',LoopI C fl me b r st2 e st'→LoopI C fl me b r st e st'
noncomputable def runC (C:Cfg) (fl:Nat) (me:FuncId) (r:Nat) (π:List (Nat × Nat × Ora)) (b:Code) (st:St):Option (Ex × St × List Prop) :=
 match runQ C fl me π b st with
 | some (.normal,st1,φs)=>some (.normal,cleanSt (C.loop me r) st1,φs)
 | some (e,st1,φs)=>some (e,cleanSt (C.after me r) st1,φs)
 | none=>none
theorem runC_n {r:Nat} {π:List (Nat × Nat × Ora)} {b:Code} {st st2:St} {φs:List Prop} (h:runC C fl me r π b st=some (.normal,st2,φs)):∃ st1,runQ C fl me π b st=some (.normal,st1,φs)∧cleanSt (C.loop me r) st1=st2:=by
 unfold runC at h
 split at h
 ·rename_i st1 ψ h1;cases h;exact ⟨st1,h1,rfl⟩
 ·rename_i e st1 ψ hne h1;cases h;exact (hne rfl).elim
 ·cases h
theorem runC_e {r:Nat} {π:List (Nat × Nat × Ora)} {b:Code} {st st2:St} {e:Ex} {φs:List Prop} (he:e ≠ .normal) (h:runC C fl me r π b st=some (e,st2,φs)):∃ st1,runQ C fl me π b st=some (e,st1,φs)∧cleanSt (C.after me r) st1=st2:=by
 unfold runC at h
 split at h
 ·cases h;exact absurd rfl he
 ·rename_i e' st1 ψ hne h1;cases h;exact ⟨st1,h1,rfl⟩
 ·cases h
theorem loopStepS {b:Code} {r:Nat} {st st3:St} (st2:St) (π:List Ask) (h:runC C fl me r (π.map Ask.key) b st=some (.normal,st2,π.map Ask.p)) (hq:st2=st3):LoopS C fl me b r st st3:=by
 subst hq
 obtain ⟨st1,h1,h2⟩:=runC_n h
 exact fun _ _ hn=>loopStep π h1 h2 hn
theorem loopStepC {b:Code} {r:Nat} {st st' st3:St} {e e3:Ex} (st2:St) (π:List Ask) (h:runC C fl me r (π.map Ask.key) b st=some (.normal,st2,π.map Ask.p))
  (hn:LoopI C fl me b r st2 e st') (hq:(e,st')=(e3,st3)):LoopI C fl me b r st e3 st3:=by
 cases hq
 obtain ⟨st1,h1,h2⟩:=runC_n h
 exact loopStep π h1 h2 hn
theorem loopEndC {b:Code} {r:Nat} {st st3:St} {e3:Ex} (e1:Ex) (st2:St) (π:List Ask) (h:runC C fl me r (π.map Ask.key) b st=some (e1,st2,π.map Ask.p)) (he:e1 ≠ .normal) (hq:(e1,st2)=(e3,st3)) :
  LoopI C fl me b r st e3 st3:=by
 cases hq
 obtain ⟨st1,h1,h2⟩:=runC_e he h
 exact loopEnd π h1 h2 he
end Go.Proofs.YtanopbolgfcojaaGreatDoor.E
namespace Go.Proofs.YtanopbolgfcojaaGreatDoor.E
open Go Go.RowKit Go.Lib
section
variable {C:Cfg}
theorem blk_last' {hp:List Blk} {n:Nat} {cs:List AV} {rest:List Blk} (h:hp.length=n):blkCells (hp ++ .cells cs::rest) n=some cs:=h ▸ blk_last
def IsSl (sz:Nat) (x:AV) (vs:List AV):Prop:=(x = .nilS∧vs=[])∨∃ o,x = .lit sz o vs
theorem IsSl.nil (sz:Nat):IsSl sz .nilS [] := .inl ⟨rfl,rfl⟩
theorem IsSl.lit (sz:Nat) (o:Own) (vs:List AV):IsSl sz (.lit sz o vs) vs := .inr ⟨o,rfl⟩
def isSlc0 (C:Cfg) (t:TypeId):Bool:=match C.ty t with
 | some ⟨.slice _,_,_,_,_⟩=>true
 | _=>false
theorem len_sl {t:TypeId} {ts':List TypeId} {fl:Nat} {ar:Bool} {sz:Nat} {x:AV} {vs:List AV} {hp:List Blk} (h:IsSl sz x vs) (ht:isSlc0 C t=true):∀ ts,builtinE C fl ar ⟨ts,hp⟩ .len (t::ts') [x]=some ⟨.v (.int .i64 (vs.length:Int)),ts,hp, .z⟩:=by
 intro ts
 unfold isSlc0 at ht
 split at ht
 ·rename_i e _ _ _ _ h1
  rcases h with ⟨rfl,rfl⟩ | ⟨o,rfl⟩ <;> simp [builtinE,lenE,h1,slcLen,ofO]
 ·cases ht
theorem indexAddr_sl {t:TypeId} {sz:Nat} {x:AV} {vs:List AV} {n:Int} {v:AV} (h:IsSl sz x vs) (ht:isSlcT C t sz=true) (h0:0≤n) (hv:vs[n.toNat]?=some v):indexAddr C t (.v x) n=some (.v (.rop v)):=by
 rcases h with ⟨rfl,rfl⟩ | ⟨o,rfl⟩
 ·simp at hv
 ·exact indexAddr_lit ht h0 hv
def FrC (S:List Nat) (hp hp':List Blk):Prop:=hp.length≤hp'.length∧∀ b cs,b ∉ S→blkCells hp b=some cs→blkCells hp' b=some cs
theorem FrC.refl (S:List Nat) (hp:List Blk):FrC S hp hp:=⟨Nat.le_refl _,fun _ _ _ h=>h⟩
theorem FrC.trans {S:List Nat} {a b c:List Blk} (h:FrC S a b) (g:FrC S b c):FrC S a c:=⟨Nat.le_trans h.1 g.1,fun x cs hx hc=>g.2 x cs hx (h.2 x cs hx hc)⟩
theorem FrC.mono {S T:List Nat} {a b:List Blk} (h:FrC S a b) (hs:∀ x ∈ S,x ∈ T):FrC T a b:=⟨h.1,fun x cs hx hc=>h.2 x cs (fun hh=>hx (hs x hh)) hc⟩
theorem FrC.app (S:List Nat) (hp l:List Blk):FrC S hp (hp++l):=⟨by simp,fun _ _ _ h=>blk_app h⟩
theorem FrC.set {S:List Nat} {hp:List Blk} {b:Nat} {x:Blk} (h:b ∈ S):FrC S hp (setAt hp b x) :=
 ⟨by rw [setAt_length];exact Nat.le_refl _,fun c cs hc hb=>blk_set_ne (fun e=>hc (e ▸ h)) hb⟩
theorem FrC.setFam {S:List Nat} {hp:List Blk} {b:Nat} {x:Blk} (h:blkCells hp b=none):FrC S hp (setAt hp b x) :=
 ⟨by rw [setAt_length];exact Nat.le_refl _,fun c cs _ hb=>blk_set_ne (fun e=>by subst e;rw [h] at hb;cases hb) hb⟩
theorem FrC.put3 {S:List Nat} {hp h3 h7:List Blk} {a b:Nat} {x y:Blk} (g:FrC [] (setAt hp a x) h3) (k:FrC S (setAt h3 b y) h7) (ha:a ∈ S) (hb:b ∈ S):FrC S hp h7 :=
 (FrC.set ha).trans ((g.mono (by simp)).trans ((FrC.set hb).trans k))
theorem frC_blk {S:List Nat} {hp hp':List Blk} {b:Nat} {cs:List AV} (h:FrC S hp hp') (hb:blkCells hp b=some cs) (hn:b ∉ S):blkCells hp' b=some cs:=h.2 b cs hn hb
def Gr (fl sz:Nat) (hp:List Blk) (x:AV) (vs:List AV):Prop:=(x = .nilS∧vs=[])∨∃ g,x = .lit sz (.fam g 0) vs∧getAt hp g=some (.fam vs.length)∧fl≤g
theorem Gr.nil (fl sz:Nat) (hp:List Blk):Gr fl sz hp .nilS [] := .inl ⟨rfl,rfl⟩
theorem Gr.isSl {fl sz:Nat} {hp:List Blk} {x:AV} {vs:List AV} (h:Gr fl sz hp x vs):IsSl sz x vs:=by
 rcases h with ⟨rfl,rfl⟩ | ⟨g,rfl,_⟩
 ·exact .nil _
 ·exact .lit _ _ _
def elT (C:Cfg) (t:TypeId) (sz bytes:Nat):Bool:=match C.ty t with
 | some ⟨.slice e,_,_,_,_⟩=>(match C.ty e with | some ei=>ei.size==sz&&ei.bytes==bytes && !(sz==0) && !(bytes==0) | none=>false)
 | _=>false
theorem elT_ty {t:TypeId} {sz bytes:Nat} (h:elT C t sz bytes=true):∃ e a b c d ei,C.ty t=some ⟨.slice e,a,b,c,d⟩∧C.ty e=some ei∧ei.size=sz∧ei.bytes=bytes∧sz≠0∧bytes≠0:=by
 unfold elT at h
 split at h
 ·rename_i e a b c d h1
  split at h
  ·rename_i ei h2
   simp at h
   obtain ⟨⟨⟨h3,h4⟩,h5⟩,h6⟩:=h
   exact ⟨e,a,b,c,d,ei,h1,h2,h3,h4,h5,h6⟩
  ·cases h
 ·cases h
theorem append_gr {fl sz bytes:Nat} {hp:List Blk} {x y:AV} {vs ws:List AV} {t:TypeId} (h:Gr fl sz hp x vs) (hy:elems hp sz y=some ws) (ht:elT C t sz bytes=true) (hw:ws≠[]) (hl:(vs.length + ws.length) * bytes≤35184372088832) (hf:fl≤hp.length) :
  ∃ x' hp',(∀ ts,builtinE C fl false ⟨ts,hp⟩ .append [t,t] [x,y]=some ⟨.v x',ts,hp',bif isArr y then .hw else .fw⟩)∧Gr fl sz hp' x' (vs++ws)∧FrC [] hp hp':=by
 obtain ⟨e,a,b,c,d,ei,h1,h2,rfl,rfl,h5,h6⟩:=elT_ty ht
 have hk:(ws.length==0)=false:=by simpa using hw
 have k5:(ei.size==0)=false:=by simpa using h5
 have k6:(ei.bytes==0)=false:=by simpa using h6
 rcases h with ⟨rfl,rfl⟩ | ⟨g,rfl,h3,h4⟩
 ·refine ⟨.lit ei.size (.fam hp.length 0) ws,hp++[.fam ws.length],fun ts => ?_, .inr ⟨hp.length,by simp, ?_,hf⟩, .app _ _ _⟩
  ·simp only [List.length_nil,Nat.zero_add] at hl
   have n1:elems hp ei.size .nilS=some []:=rfl
   have n2:isArr .nilS=false:=rfl
   have n3:isSlc .nilS=true:=rfl
   simp [builtinE,appendE,appElems,h1,h2,hy,hl,k5,k6,hk,n1,n2,n3]
  ·rw [getAt_eq,List.getElem?_append_right (Nat.le_refl _),Nat.sub_self];simp
 ·refine ⟨.lit ei.size (.fam g 0) (vs++ws),setAt hp g (.fam (vs.length + ws.length)),fun ts => ?_, .inr ⟨g,rfl, ?_,h4⟩, .setFam (by unfold blkCells;rw [h3])⟩
  ·have n1:elems hp ei.size (.lit ei.size (.fam g 0) vs)=some vs:=by simp [elems]
   have n2:isArr (.lit ei.size (.fam g 0) vs)=false:=rfl
   have n3:isSlc (.lit ei.size (.fam g 0) vs)=true:=rfl
   simp [builtinE,appendE,appElems,h1,h2,hy,hl,k5,k6,hk,n1,n2,n3,h3,h4]
  ·rw [getAt_eq,setAt_eq,List.getElem?_set_self]
   ·simp
   ·rw [getAt_eq] at h3;exact (List.getElem?_eq_some_iff.1 h3).1
theorem elems_lit' {hp:List Blk} {sz:Nat} {o:Own} {vs:List AV}:elems hp sz (.lit sz o vs)=some vs:=by simp [elems]
theorem indexAddr_arr' {t:TypeId} {sz b off len o:Nat} {n:Int} (ht:isSlcT C t sz=true) (h0:0≤n) (h:n < len) (ho:off + n.toNat * sz=o):indexAddr C t (.v (.arr sz b off len)) n=some (.v (.ptr b o)):=ho ▸ indexAddr_arr ht h0 h
theorem gr_set {fl sz b:Nat} {hp:List Blk} {x:AV} {vs cs c:List AV} (h:Gr fl sz hp x vs) (hb:blkCells hp b=some cs):Gr fl sz (setAt hp b (.cells c)) x vs:=by
 rcases h with ⟨rfl,rfl⟩ | ⟨g,rfl,h3,h4⟩
 ·exact .nil _ _ _
 ·refine .inr ⟨g,rfl, ?_,h4⟩
  have:b≠g:=fun e=>by subst e;unfold blkCells at hb;rw [h3] at hb;cases hb
  rw [getAt_eq,setAt_eq,List.getElem?_set_ne this,← getAt_eq];exact h3
def isSlc1 (C:Cfg) (t:TypeId):Bool:=match C.ty t with
 | some ⟨.slice _,sz,_,_,_⟩=>sz==1
 | _=>false
theorem IsSl.one {sz:Nat} {x:AV} {vs:List AV} (h:IsSl sz x vs):x.cells=[x]∧x.noTup=true:=by
 rcases h with ⟨rfl,rfl⟩ | ⟨o,rfl⟩ <;> exact ⟨rfl,rfl⟩
theorem store_sl {t:TypeId} {b off fl sz:Nat} {hp hp':List Blk} {cs:List AV} {x:AV} {vs:List AV} (hx:IsSl sz x vs) (ht:isSlc1 C t=true) (h:blkCells hp b=some cs) (ho:decide (off < cs.length)=true) (hf:fl≤b)
  (hh:setAt hp b (.cells (splice cs off [x]))=hp'):∀ ts,storeAt C fl ⟨ts,hp⟩ t (.v (.ptr b off)) x=some ⟨.sk,ts,hp', .hw⟩:=by
 unfold isSlc1 at ht
 split at ht
 ·rename_i e sz' _ _ _ h1
  intro ts
  subst hh
  have e:sz'=1:=by simpa using ht
  subst e
  obtain ⟨h2,h3⟩:=hx.one
  have e4:decide (fl≤b)=true:=decide_eq_true hf
  have e5:decide (off + 1≤cs.length)=true:=decide_eq_true (of_decide_eq_true ho)
  unfold storeAt
  simp only [h1,h,h2,h3,e4,e5,List.length_cons,List.length_nil,Nat.zero_add,Bool.and_self,cond_true rfl]
  rfl
 ·cases ht
def isBoolT (C:Cfg) (t:TypeId):Bool:=match C.ty t with
 | some ⟨.bool,sz,_,_,_⟩=>sz==1
 | _=>false
theorem load_bools {t:TypeId} {b off:Nat} {hp:List Blk} {m:List Bool} (ht:isBoolT C t=true) (h:blkCells hp b=some (m.map .bool)) (hi:off < m.length):∀ ts,loadAt C ⟨ts,hp⟩ t (.v (.ptr b off))=some ⟨.v (.bool (m.getD off true)),ts,hp, .hb b⟩:=by
 unfold isBoolT at ht
 split at ht
 ·rename_i sz _ _ _ h1
  intro ts
  unfold loadAt
  simp only [h1,h,part,TK.agg,cond_false rfl,getAt_eq]
  rw [List.getElem?_map,List.getElem?_eq_getElem hi,List.getD_eq_getElem?_getD,List.getElem?_eq_getElem hi]
  rfl
 ·cases ht
theorem splice_one {α:Type}:∀ (l:List α) (i:Nat) (x:α),i < l.length→splice l i [x]=l.set i x
 | [],_,_,h=>by simp at h
 | a::l,0,x,_=>by simp [splice]
 | a::l,i + 1,x,h=>by simp only [splice,List.set_cons_succ];rw [splice_one l i x (by simpa using h)]
theorem map_set' {α β:Type} (f:α→β):∀ (l:List α) (i:Nat) (x:α),(l.map f).set i (f x)=(l.set i x).map f
 | [],_,_=>rfl
 | a::l,0,x=>rfl
 | a::l,i + 1,x=>congrArg (f a :: ·) (map_set' f l i x)
theorem store_bools {t:TypeId} {b off fl:Nat} {hp hp':List Blk} {m:List Bool} {v:Bool} (ht:isBoolT C t=true) (h:blkCells hp b=some (m.map .bool)) (hi:off < m.length) (hf:fl≤b) (hh:setAt hp b (.cells ((m.set off v).map .bool))=hp') :
  ∀ ts,storeAt C fl ⟨ts,hp⟩ t (.v (.ptr b off)) (.bool v)=some ⟨.sk,ts,hp', .hw⟩:=by
 unfold isBoolT at ht
 split at ht
 ·rename_i sz _ _ _ h1
  intro ts
  subst hh
  have e:sz=1:=by simpa using ht
  subst e
  unfold storeAt
  have e2:splice (m.map AV.bool) off [AV.bool v]=(m.set off v).map .bool:=by rw [splice_one _ _ _ (by simpa using hi),map_set']
  have e3:decide (off + 1≤m.length)=true:=decide_eq_true hi
  have e4:decide (fl≤b)=true:=decide_eq_true hf
  have e5:decide (off + 1≤(m.map AV.bool).length)=true:=decide_eq_true (by rw [List.length_map];exact hi)
  simp only [h1,h,AV.cells,AV.noTup,e2,e4,e5,List.length_cons,List.length_nil,Nat.zero_add,Bool.and_self,cond_true rfl]
  rfl
 ·cases ht
def isBools (C:Cfg) (t:TypeId):Bool:=match C.ty t with
 | some ⟨.slice e,_,_,_,_⟩=>(match C.ty e with | some ⟨.bool,sz,by',[.bool false],_⟩=>sz==1&&by'==1 | _=>false)
 | _=>false
theorem zeros_bools (q:Bool):∀ n:Nat,zeros ⟨.bool,1,1,[.bool false],q⟩ n=(List.replicate n false).map .bool
 | 0=>rfl
 | n + 1=>by simp only [zeros,List.replicate_succ,List.map_cons,zeros_bools q n];rfl
theorem mkSl_bools {t:TypeId} {n:Nat} {hp:List Blk} {k k':IntKind} (ht:isBools C t=true) (hn:n≤1000000):∀ ts,mkSl C ⟨ts,hp⟩ t (.int k (n:Int)) (.int k' (n:Int))=some ⟨.v (.arr 1 hp.length 0 n),ts,hp++[.cells ((List.replicate n false).map .bool)], .hw⟩:=by
 unfold isBools at ht
 split at ht
 ·rename_i e _ _ _ _ h1
  split at ht
  ·rename_i sz by' q h2
   simp at ht
   obtain ⟨rfl,rfl⟩:=ht
   intro ts
   unfold mkSl
   simp only [h1,h2]
   have e1:decide ((0:Int)≤(n:Int))=true:=decide_eq_true (by omega)
   have e2:decide ((n:Int)≤(n:Int))=true:=decide_eq_true (by omega)
   have e3:decide ((n:Int) * ((1:Nat):Int)≤35184372088832)=true:=decide_eq_true (by omega)
   rw [e1,e2,e3]
   simp only [newBlk,Int.toNat_natCast,zeros_bools]
   rfl
  ·cases ht
 ·cases ht
theorem elems_sl {hp:List Blk} {sz:Nat} {x:AV} {vs:List AV} (h:IsSl sz x vs):elems hp sz x=some vs:=by
 rcases h with ⟨rfl,rfl⟩ | ⟨o,rfl⟩
 ·rfl
 ·exact elems_lit'
end
section
variable {C:Cfg}
theorem entry_trueI {P:Program} (hT:TabOK P C) {f:FuncId} {args:List AV} {fl:Nat} {hp':List Blk} {w:World} {rargs:List Value} (hf:(C.code f).isSome=true) (hg:∀ g v,C.glob g=some v→GlobOK w g v)
  (h:evI C fl f args []=some (.bool true,hp')) (hA:CR 0 (lay0 w) w args rargs):Calls P f rargs.toArray w fun e w'=>e = .returned (.bool true)∧Below w.heap.size w w':=by
 obtain ⟨k,hk⟩:=evI_to h
 exact entry_true hT hf hg (hk k (Nat.le_refl _)) hA
end
end Go.Proofs.YtanopbolgfcojaaGreatDoor.E
namespace Go.Proofs.YtanopbolgfcojaaGreatDoor.E
open Go
def FrE (S:List Nat) (hp hp':List Blk):Prop:=hp'.length=hp.length∧∀ b,b ∉ S→getAt hp' b=getAt hp b
theorem FrE.refl (S:List Nat) (hp:List Blk):FrE S hp hp:=⟨rfl,fun _ _=>rfl⟩
theorem FrE.trans {S:List Nat} {a b c:List Blk} (h:FrE S a b) (g:FrE S b c):FrE S a c:=⟨g.1.trans h.1,fun x hx=>(g.2 x hx).trans (h.2 x hx)⟩
theorem FrE.set {S:List Nat} {hp:List Blk} {b:Nat} {x:Blk} (h:b ∈ S):FrE S hp (setAt hp b x) :=
 ⟨setAt_length _ _ _,fun c hc=>by simp only [getAt_eq,setAt_eq];rw [List.getElem?_set_ne (fun e=>hc (by rw [← e];exact h))]⟩
theorem gr_frE {fl sz rb:Nat} {hp hp':List Blk} {x:AV} {vs cs:List AV} (h:FrE [rb] hp hp') (hg:Gr fl sz hp x vs) (hb:blkCells hp rb=some cs):Gr fl sz hp' x vs:=by
 rcases hg with ⟨rfl,rfl⟩ | ⟨g,rfl,h3,h4⟩
 ·exact .nil _ _ _
 ·refine .inr ⟨g,rfl, ?_,h4⟩
  have:rb≠g:=fun e=>by subst e;unfold blkCells at hb;rw [h3] at hb;cases hb
  rw [h.2 g (by simp;omega)];exact h3
section
variable {C:Cfg}
def sealOf:AV→AV
 | .lit sz _ vs => .lit sz .sealed vs
 | x=>x
theorem sealOf_sl {fl sz:Nat} {hp:List Blk} {x:AV} {vs:List AV} (h:Gr fl sz hp x vs):IsSl sz (sealOf x) vs:=by
 rcases h with ⟨rfl,rfl⟩ | ⟨g,rfl,_⟩
 ·exact .nil _
 ·exact .lit _ _ _
def Plain (d:Nat) (v:AV):Prop:=∀ hp n,shutV hp n d v=some v
theorem mapO_plain {hp:List Blk} {n d:Nat}:∀ {vs:List AV},(∀ v ∈ vs,Plain d v)→mapO (shutV hp n d) vs=some vs
 | [],_=>rfl
 | v::vs,h=>by
  unfold mapO
  rw [h v (by simp) hp n,mapO_plain (vs:=vs) fun u hu=>h u (by simp [hu])]
theorem shut_gr {fl sz:Nat} {hp:List Blk} {x:AV} {vs:List AV} (h:Gr fl sz hp x vs) (hv:∀ v ∈ vs,Plain 99999 v):shutV hp fl 100000 x=some (sealOf x):=by
 rcases h with ⟨rfl,rfl⟩ | ⟨g,rfl,_,h4⟩
 ·rfl
 ·have e:decide (g < fl)=false:=decide_eq_false (by omega)
  show (match mapO (shutV hp fl 99999) vs with
   | some ys=>some (AV.lit sz (bif decide (g < fl) then Own.fam g 0 else .sealed) ys)
   | none=>none)=_
  rw [mapO_plain hv,e];rfl
theorem plain_int {d:Nat} {k:IntKind} {n:Int}:Plain (d + 1) (.int k n):=fun _ _=>rfl
theorem plain_agg {d:Nat} {cs:List AV} (h:∀ v ∈ cs,Plain d v):Plain (d + 1) (.agg cs):=fun hp n=>by
 show (mapO (shutV hp n d) cs).map AV.agg=_
 rw [mapO_plain h];rfl
end
section
variable {C:Cfg}
def PreN (n:Nat) (hp hp':List Blk):Prop:=hp.length≤hp'.length∧∀ c,c < n→getAt hp' c=getAt hp c
theorem PreN.refl (n:Nat) (hp:List Blk):PreN n hp hp:=⟨Nat.le_refl _,fun _ _=>rfl⟩
theorem PreN.trans {n:Nat} {a b c:List Blk} (h:PreN n a b) (g:PreN n b c):PreN n a c:=⟨Nat.le_trans h.1 g.1,fun x hx=>(g.2 x hx).trans (h.2 x hx)⟩
theorem PreN.set {n b:Nat} {hp:List Blk} {x:Blk} (h:n≤b):PreN n hp (setAt hp b x) :=
 ⟨by rw [setAt_length];exact Nat.le_refl _,fun c hc=>by simp only [getAt_eq,setAt_eq];rw [List.getElem?_set_ne (by omega)]⟩
theorem PreN.app {n:Nat} {hp l:List Blk} (h:n≤hp.length):PreN n hp (hp++l) :=
 ⟨by simp,fun c hc=>by simp only [getAt_eq];rw [List.getElem?_append_left (by omega)]⟩
def AggN (sz:Nat) (vs:List AV):Prop:=∀ v ∈ vs,∃ c,v = .agg c∧c.length=sz
theorem AggN.app {sz:Nat} {vs ws:List AV} (h:AggN sz vs) (g:AggN sz ws):AggN sz (vs++ws):=fun v hv=>(List.mem_append.1 hv).elim (h v) (g v)
theorem flat_len {sz:Nat}:∀ {vs:List AV},AggN sz vs→(flat vs).length=vs.length * sz
 | [],_=>by simp [flat]
 | v::vs,h=>by
  obtain ⟨c,rfl,hc⟩:=h v (by simp)
  have ih:=flat_len (vs:=vs) fun u hu=>h u (by simp [hu])
  simp only [flat,AV.cells,List.length_append,hc,ih,List.length_cons,Nat.add_mul,Nat.one_mul];omega
theorem chunk_flat {sz:Nat} (h1:sz≠1):∀ {vs:List AV} {rest:List AV},AggN sz vs→chunk sz vs.length (flat vs++rest)=some vs
 | [],_,_=>rfl
 | v::vs,rest,h=>by
  obtain ⟨c,rfl,hc⟩:=h v (by simp)
  have ih:=chunk_flat (rest:=rest) h1 (vs:=vs) fun u hu=>h u (by simp [hu])
  have e1:(sz==1)=false:=by simpa using h1
  have e2:(c++(flat vs++rest)).take sz=c:=by rw [List.take_append_of_le_length (by omega),List.take_of_length_le (by omega)]
  have e3:(c++(flat vs++rest)).drop sz=flat vs++rest:=by rw [List.drop_append_of_le_length (by omega),List.drop_of_length_le (by omega)];rfl
  simp only [flat,AV.cells,List.append_assoc,List.length_cons,chunk,e1,cond_false rfl,e2,hc,beq_self_eq_true,cond_true rfl,e3,ih]
def RowN (n sz:Nat) (hp:List Blk) (x:AV) (vs:List AV):Prop:=(x = .nilS∧vs=[])∨∃ b,x = .arr sz b 0 vs.length∧blkCells hp b=some (flat vs)∧n≤b∧AggN sz vs
theorem RowN.nil (n sz:Nat) (hp:List Blk):RowN n sz hp .nilS [] := .inl ⟨rfl,rfl⟩
theorem RowN.elems {n sz:Nat} {hp:List Blk} {x:AV} {vs:List AV} (h:RowN n sz hp x vs) (h1:sz≠1):elems hp sz x=some vs:=by
 rcases h with ⟨rfl,rfl⟩ | ⟨b,rfl,h2,_,h4⟩
 ·rfl
 ·have:=chunk_flat (rest:=[]) h1 h4
  simp [E.elems,h2,List.append_nil] at this ⊢
  exact this
theorem append_row {fl n sz bytes:Nat} {hp:List Blk} {x y:AV} {vs ws:List AV} {t:TypeId} (h:RowN n sz hp x vs) (hy:elems hp sz y=some ws) (ha:AggN sz ws) (ht:elT C t sz bytes=true) (h1:sz≠1) (hl:(vs.length + ws.length) * bytes≤35184372088832) (hf:fl≤n) (hn:n≤hp.length) :
  ∃ x' hp' fp,(∀ ts,builtinE C fl true ⟨ts,hp⟩ .append [t,t] [x,y]=some ⟨.v x',ts,hp',fp⟩)∧RowN n sz hp' x' (vs++ws)∧PreN n hp hp':=by
 have he:=h.elems h1
 obtain ⟨e,a,b0,c,d,ei,g1,g2,rfl,rfl,h5,h6⟩:=elT_ty ht
 have k5:(ei.size==0)=false:=by simpa using h5
 have k6:(ei.bytes==0)=false:=by simpa using h6
 by_cases hw:ws=[]
 ·subst hw
  refine ⟨x,hp,bif isArr x||isArr y then .hw else .fw,fun ts => ?_,by simpa using h, .refl _ _⟩
  ·have hs:isSlc x=true:=by
    rcases h with ⟨rfl,rfl⟩ | ⟨b,rfl,_⟩ <;> rfl
   have hl':decide ((vs.length + 0) * ei.bytes≤35184372088832)=true:=decide_eq_true (by simpa using hl)
   simp only [builtinE,appendE,appElems,g1,g2,he,hy,List.length_nil,hl',k5,k6,hs,Bool.not_true,Bool.or_self,cond_false rfl,beq_self_eq_true,cond_true rfl]
 ·have hk:(ws.length==0)=false:=by simpa using hw
  have hl':decide ((vs.length + ws.length) * ei.bytes≤35184372088832)=true:=decide_eq_true hl
  rcases h with ⟨rfl,rfl⟩ | ⟨b,rfl,g3,g4,g5⟩
  ·refine ⟨.arr ei.size hp.length 0 ws.length,hp++[.cells (flat ws)],bif isArr .nilS||isArr y then .hw else .fw,fun ts => ?_, .inr ⟨hp.length,by simp,blk_last,hn,by simpa using ha⟩, .app hn⟩
   have n1:isSlc .nilS=true:=rfl
   simp only [List.length_nil,Nat.zero_add] at hl'
   simp only [builtinE,appendE,appElems,g1,g2,he,hy,List.length_nil,Nat.zero_add,hl',k5,k6,n1,hk,Bool.not_true,Bool.or_self,cond_false rfl,cond_true rfl,List.nil_append]
  ·have hfl:decide (fl≤b)=true:=decide_eq_true (by omega)
   have hcap:decide (0 + (vs.length + ws.length) * ei.size≤(flat vs).length)=false:=decide_eq_false (by
    rw [flat_len g5,Nat.add_mul]
    have:0 < ws.length * ei.size:=Nat.mul_pos (List.length_pos_iff.2 hw) (by omega)
    omega)
   have n1:isSlc (.arr ei.size b 0 vs.length)=true:=rfl
   have hb:=blk_lt g3
   refine ⟨.arr ei.size hp.length 0 (vs.length + ws.length),setAt hp b .dead++[.cells (flat (vs++ws))],bif isArr (.arr ei.size b 0 vs.length)||isArr y then .hw else .fw,fun ts => ?_, .inr ⟨hp.length,by simp, ?_,hn,g5.app ha⟩,(PreN.set g4).trans (.app (by rw [setAt_length];exact hn))⟩
   ·simp only [builtinE,appendE,appElems,g1,g2,he,hy,hl',k5,k6,n1,hk,g3,hfl,hcap,Bool.not_true,Bool.or_self,cond_false rfl,cond_true rfl]
   ·exact blk_last' (setAt_length _ _ _)
end
end Go.Proofs.YtanopbolgfcojaaGreatDoor.E
namespace Go.Proofs.YtanopbolgfcojaaGreatDoor.E.R
open Go
structure W4 where
 a:BitVec 64
 b:BitVec 64
 c:BitVec 64
 d:BitVec 64
@[reducible] def wAV (x:BitVec 64):AV := .int .u64 (x.toNat:Int)
@[reducible] def W4.av (s:W4):List AV:=[wAV s.a,wAV s.b,wAV s.c,wAV s.d]
def W4.zero:W4:=⟨0,0,0,0⟩
def setBit (w:BitVec 64) (n:Nat):BitVec 64:=w ||| (1#64 <<< n)
def W4.add (s:W4) (k:Nat):W4:=match k / 64 with
 | 0=>{ s with a:=setBit s.a (k % 64) }
 | 1=>{ s with b:=setBit s.b (k % 64) }
 | 2=>{ s with c:=setBit s.c (k % 64) }
 | _=>{ s with d:=setBit s.d (k % 64) }
def W4.addN (s:W4):Nat→Nat→W4
 | 0,_=>s
 | n + 1,k=>(s.add k).addN n (k + 1)
def W4.with (s:W4) (lo hi:UInt8):W4:=s.addN (hi.toNat + 1 - lo.toNat) lo.toNat
def W4.word (s:W4) (k:Nat):BitVec 64:=match k / 64 with
 | 0=>s.a
 | 1=>s.b
 | 2=>s.c
 | _=>s.d
def W4.has (s:W4) (k:Nat):Bool:=(s.word k).getLsbD (k % 64)
theorem setBit_has (w:BitVec 64) (n m:Nat) (hm:m < 64):(setBit w n).getLsbD m=(w.getLsbD m||decide (m=n)):=by
 unfold setBit
 rw [BitVec.getLsbD_or,BitVec.getLsbD_shiftLeft]
 by_cases h:m=n
 ·subst h;simp [hm]
 ·by_cases h2:m < n
  ·simp [hm,h,h2]
  ·simp [hm,h,h2,BitVec.getLsbD_one];omega
theorem W4.add_has (s:W4) (k x:Nat) (hk:k < 256) (hx:x < 256):(s.add k).has x=(s.has x||decide (x=k)):=by
 have hm:x % 64 < 64:=Nat.mod_lt _ (by omega)
 have h1:k / 64=0∨k / 64=1∨k / 64=2∨k / 64=3:=by omega
 have h2:x / 64=0∨x / 64=1∨x / 64=2∨x / 64=3:=by omega
 unfold W4.has W4.word W4.add
 rcases h1 with h1 | h1 | h1 | h1 <;> rcases h2 with h2 | h2 | h2 | h2 <;> simp only [h1,h2,setBit_has _ _ _ hm] <;>
  first
  | (congr 1;rw [decide_eq_decide];omega)
  | (rw [decide_eq_false (by omega),Bool.or_false])
theorem W4.addN_has (n:Nat):∀ (s:W4) (k x:Nat),k + n≤256→x < 256→(s.addN n k).has x=(s.has x||decide (k≤x∧x < k + n)):=by
 induction n with
 | zero=>intro s k x _ _;unfold W4.addN;rw [decide_eq_false (by omega),Bool.or_false]
 | succ n ih =>
  intro s k x hk hx
  unfold W4.addN
  rw [ih _ _ _ (by omega) hx,W4.add_has _ _ _ (by omega) hx,Bool.or_assoc]
  congr 1
  rw [← Bool.decide_or,decide_eq_decide]
  omega
theorem W4.with_has (s:W4) (lo hi:UInt8) (x:Nat) (hx:x < 256):(s.with lo hi).has x=(s.has x||decide (lo.toNat≤x∧x≤hi.toNat)):=by
 have h1:=lo.toNat_lt;have h2:=hi.toNat_lt
 unfold W4.with
 by_cases h:lo.toNat≤hi.toNat
 ·rw [W4.addN_has _ _ _ _ (by omega) hx];congr 1;rw [decide_eq_decide];omega
 ·rw [show hi.toNat + 1 - lo.toNat=0 by omega];unfold W4.addN;rw [decide_eq_false (by omega),Bool.or_false]
theorem ofInt_w (x:BitVec 64):BitVec.ofInt IntKind.u64.bits (x.toNat:Int)=x:=by
 show BitVec.ofInt 64 _=x
 rw [BitVec.ofInt_natCast,BitVec.ofNat_toNat,BitVec.setWidth_eq]
theorem or_w (w v:BitVec 64):IntKind.wrap .u64 ((BitVec.ofInt IntKind.u64.bits (w.toNat:Int) ||| BitVec.ofInt IntKind.u64.bits (v.toNat:Int)).toNat:Int)=((w ||| v).toNat:Int):=by
 rw [ofInt_w,ofInt_w]
 have h:(w ||| v).toNat < 18446744073709551616:=(w ||| v).isLt
 have h2:((w ||| v:BitVec 64).toNat:Int) < 18446744073709551616:=Int.ofNat_lt.2 h
 exact wrap_u64 (Int.natCast_nonneg _) h2
theorem shl_w (n:Nat) (h:n < 64):IntKind.wrap .u64 ((1:Int) * 2 ^ n)=((1#64 <<< n).toNat:Int):=by
 have h1:2 ^ n < 2 ^ 64:=Nat.pow_lt_pow_right (by omega) h
 have:(1#64 <<< n).toNat=2 ^ n:=by
  rw [BitVec.toNat_shiftLeft];simp [Nat.shiftLeft_eq]
  exact h1
 have h2:((2:Int) ^ n)=((2 ^ n:Nat):Int):=by simp
 rw [this,Int.one_mul,h2,wrap_u64 (by omega) (by have:(2:Nat) ^ 64=18446744073709551616:=rfl;omega)]
end Go.Proofs.YtanopbolgfcojaaGreatDoor.E.R
namespace Go.Proofs.YtanopbolgfcojaaGreatDoor.E
open Go E.R
inductive Node where
 | mk (kind:Int) (set:W4) (mn mx:Int) (kids:List Node)
namespace Node
def kind:Node→Int | mk k _ _ _ _=>k
def set:Node→W4 | mk _ s _ _ _=>s
def mn:Node→Int | mk _ _ a _ _=>a
def mx:Node→Int | mk _ _ _ b _=>b
def kids:Node→List Node | mk _ _ _ _ l=>l
def empty:Node:=mk 0 W4.zero 0 0 []
def one (s:W4):Node:=mk 1 s 0 0 []
end Node
abbrev nAV (n:Node) (ks:AV):AV := .agg [AI n.kind,wAV n.set.a,wAV n.set.b,wAV n.set.c,wAV n.set.d,AI n.mn,AI n.mx,ks]
inductive NodeR:Node→AV→Prop
 | mk (n:Node) (ks:AV) (vs:List AV) (h:IsSl 8 ks vs) (hl:vs.length=n.kids.length) (hr:∀ (i:Nat) (k:Node) (v:AV),n.kids[i]?=some k→vs[i]?=some v→NodeR k v):NodeR n (nAV n ks)
def NodesR (l:List Node) (vs:List AV):Prop:=vs.length=l.length∧∀ (i:Nat) (k:Node) (v:AV),l[i]?=some k→vs[i]?=some v→NodeR k v
def KidsR (l:List Node) (ks:AV):Prop:=∃ vs,IsSl 8 ks vs∧NodesR l vs
theorem NodeR.of {n:Node} {ks:AV} (h:KidsR n.kids ks):NodeR n (nAV n ks):=by
 obtain ⟨vs,h1,h2,h3⟩:=h
 exact .mk n ks vs h1 h2 h3
theorem NodeR.to {n:Node} {v:AV} (h:NodeR n v):∃ ks,v=nAV n ks∧KidsR n.kids ks:=by
 match h with
 | .mk _ ks vs h hl hr=>exact ⟨ks,rfl,vs,h,hl,hr⟩
theorem NodesR.nil:NodesR [] []:=⟨rfl,fun i k v h=>by simp at h⟩
theorem NodesR.app {l m:List Node} {vs ws:List AV} (h:NodesR l vs) (g:NodesR m ws):NodesR (l++m) (vs++ws):=by
 refine ⟨by simp [h.1,g.1],fun i k v hk hv => ?_⟩
 by_cases hi:i < l.length
 ·rw [List.getElem?_append_left hi] at hk
  rw [List.getElem?_append_left (by rw [h.1];exact hi)] at hv
  exact h.2 i k v hk hv
 ·rw [List.getElem?_append_right (by omega)] at hk
  rw [List.getElem?_append_right (by rw [h.1];omega),h.1] at hv
  exact g.2 _ k v hk hv
theorem NodesR.one {n:Node} {v:AV} (h:NodeR n v):NodesR [n] [v]:=⟨rfl,fun i k u hk hu=>by
 cases i with
 | zero=>simp at hk hu;subst hk;subst hu;exact h
 | succ i=>simp at hk⟩
theorem NodesR.agg {l:List Node} {vs:List AV} (h:NodesR l vs):AggN 8 vs:=fun v hv=>by
 obtain ⟨i,hi,he⟩:=List.mem_iff_getElem.1 hv
 have hl:i < l.length:=by rw [← h.1];exact hi
 obtain ⟨ks,rfl,_⟩:=(h.2 i l[i] v (List.getElem?_eq_getElem hl) (by rw [List.getElem?_eq_getElem hi,he])).to
 exact ⟨_,rfl,rfl⟩
theorem NodesR.get {l:List Node} {vs:List AV} (h:NodesR l vs) {i:Nat} {n:Node} (hn:l[i]?=some n):∃ ks,vs[i]?=some (nAV n ks)∧KidsR n.kids ks:=by
 have hi:i < l.length:=(List.getElem?_eq_some_iff.1 hn).1
 have hv:i < vs.length:=by rw [h.1];exact hi
 obtain ⟨ks,h1,h2⟩:=(h.2 i n vs[i] hn (List.getElem?_eq_getElem hv)).to
 exact ⟨ks,by rw [List.getElem?_eq_getElem hv,h1],h2⟩
theorem agg_one {n:Node} {ks:AV}:AggN 8 [nAV n ks]:=fun v hv=>by
 simp at hv;subst hv;exact ⟨_,rfl,rfl⟩
end Go.Proofs.YtanopbolgfcojaaGreatDoor.E
/- Rows in a block of their own that are written. -/
namespace Go.Proofs.YtanopbolgfcojaaGreatDoor.E
open Go
variable {C : Cfg}
theorem flatN_drop {sz : Nat} : ∀ {vs : List AV} (j : Nat), AggN sz vs → (flat vs).drop (j * sz) = flat (vs.drop j)
  | _, 0, _ => by simp
  | [], j + 1, _ => by simp [flat]
  | v :: vs, j + 1, h => by
    obtain ⟨c, rfl, hc⟩ := h v (by simp)
    have ih := flatN_drop j (vs := vs) fun u hu => h u (by simp [hu])
    simp only [flat, AV.cells, List.drop_succ_cons]
    have e : (c ++ flat vs).drop sz = flat vs := by rw [List.drop_append_of_le_length (by omega), List.drop_of_length_le (by omega)]; rfl
    rw [← ih, Nat.add_mul, Nat.one_mul, Nat.add_comm, ← List.drop_drop, e]
theorem flatN_set {sz : Nat} {c : List AV} (hc : c.length = sz) : ∀ {vs : List AV} (j : Nat), AggN sz vs → j < vs.length → splice (flat vs) (j * sz) c = flat (vs.set j (.agg c))
  | [], _, _, hj => by simp at hj
  | v :: vs, 0, h, _ => by
    obtain ⟨d, rfl, hd⟩ := h v (by simp)
    have : splice (flat (.agg d :: vs)) 0 c = c ++ (flat (.agg d :: vs)).drop c.length := by cases (flat (AV.agg d :: vs)) <;> rfl
    rw [Nat.zero_mul, this]
    simp only [flat, AV.cells, List.set_cons_zero]
    rw [List.drop_append_of_le_length (by omega), List.drop_of_length_le (by omega), List.nil_append]
  | v :: vs, j + 1, h, hj => by
    obtain ⟨d, rfl, hd⟩ := h v (by simp)
    have ih := flatN_set hc j (vs := vs) (fun u hu => h u (by simp [hu])) (by simpa using hj)
    simp only [flat, AV.cells, List.set_cons_succ]
    rw [← ih]
    clear ih
    have key : ∀ (d l : List AV) (k : Nat), splice (d ++ l) (d.length + k) c = d ++ splice l k c := by
      intro d
      induction d with
      | nil => intro l k; simp
      | cons a d ihd => intro l k; simp only [List.length_cons, List.cons_append]; rw [Nat.add_right_comm]; simp only [splice, ihd]
    rw [show (j + 1) * sz = d.length + j * sz by rw [Nat.add_mul, Nat.one_mul, hd, Nat.add_comm], key]
theorem flat_app {l m : List AV} : flat (l ++ m) = flat l ++ flat m := by
  induction l with
  | nil => rfl
  | cons a l ih => simp [flat, ih]
theorem AggN.set {sz : Nat} {vs : List AV} {c : List AV} {i : Nat} (h : AggN sz vs) (hc : c.length = sz) : AggN sz (vs.set i (.agg c)) := fun v hv => by
  rcases List.mem_or_eq_of_mem_set hv with hv | rfl
  · exact h v hv
  · exact ⟨c, rfl, hc⟩
theorem AggN.take {sz : Nat} {vs : List AV} {i : Nat} (h : AggN sz vs) : AggN sz (vs.take i) := fun v hv => h v (List.mem_of_mem_take hv)
def isAggT (C : Cfg) (t : TypeId) (sz : Nat) : Bool := match C.ty t with
  | some ⟨.struct _, s, _, _, _⟩ => s == sz
  | _ => false
theorem isAggT_ty {t : TypeId} {sz : Nat} (h : isAggT C t sz = true) : ∃ f a b c, C.ty t = some ⟨.struct f, sz, a, b, c⟩ := by
  unfold isAggT at h
  split at h
  · rename_i f s a b c h1
    have : s = sz := by simpa using h
    subst this
    exact ⟨f, a, b, c, h1⟩
  · cases h
theorem load_row {t : TypeId} {b j sz : Nat} {hp : List Blk} {xs : List AV} {c : List AV} (h : blkCells hp b = some (flat xs)) (hj : xs[j]? = some (.agg c)) (ha : AggN sz xs) (ht : isAggT C t sz = true) : ∀ ts, loadAt C ⟨ts, hp⟩ t (.v (.ptr b (j * sz))) = some ⟨.v (.agg c), ts, hp, .hb b⟩ := by
  intro ts
  obtain ⟨f, p, q, r, h1⟩ := isAggT_ty ht
  have hi : j < xs.length := (List.getElem?_eq_some_iff.1 hj).1
  have hx : xs[j] = .agg c := (List.getElem?_eq_some_iff.1 hj).2
  have e1 : xs.drop j = .agg c :: xs.drop (j + 1) := by rw [← hx]; exact (List.getElem_cons_drop ..).symm
  obtain ⟨c', e2, hc⟩ := ha _ (List.mem_of_getElem? hj)
  cases e2
  have e3 : ((flat xs).drop (j * sz)).take sz = c := by
    rw [flatN_drop j ha, e1]
    simp only [flat, AV.cells]
    rw [List.take_append_of_le_length (by omega), List.take_of_length_le (by omega)]
  simp only [loadAt, h1, h, part, TK.agg, e3, hc, cond_true rfl, beq_self_eq_true, Option.map]
theorem store_row {t : TypeId} {b i sz fl : Nat} {hp : List Blk} {xs : List AV} {c : List AV} (h : blkCells hp b = some (flat xs)) (ha : AggN sz xs) (hi : i < xs.length) (ht : isAggT C t sz = true) (hc : c.length = sz) (hn : (AV.agg c).noTup = true) (hf : fl ≤ b) : ∀ ts, storeAt C fl ⟨ts, hp⟩ t (.v (.ptr b (i * sz))) (.agg c) = some ⟨.sk, ts, setAt hp b (.cells (flat (xs.set i (.agg c)))), .hw⟩ := by
  intro ts
  obtain ⟨f, p, q, r, h1⟩ := isAggT_ty ht
  have e1 : decide (i * sz + sz ≤ (flat xs).length) = true := decide_eq_true (by
    rw [flat_len ha]
    have : (i + 1) * sz ≤ xs.length * sz := Nat.mul_le_mul_right _ hi
    rw [Nat.add_mul, Nat.one_mul] at this
    exact this)
  have e2 : decide (fl ≤ b) = true := decide_eq_true hf
  simp only [storeAt, h1, h, hn, AV.cells, hc, e1, e2, flatN_set hc i ha hi, beq_self_eq_true, Bool.not_true, Bool.or_self, cond_false rfl, Bool.and_self, cond_true rfl]
theorem indexAddr_row {t : TypeId} {sz b len j : Nat} (ht : isSlcT C t sz = true) (h : j < len) : indexAddr C t (.v (.arr sz b 0 len)) (j : Int) = some (.v (.ptr b (j * sz))) := by
  rw [indexAddr_arr ht (by omega) (by omega)]
  simp
/-- a row in a block of its own, of which but the first may be kept -/
def RowT (n sz : Nat) (hp : List Blk) (x : AV) (vs : List AV) : Prop := (x = .nilS ∧ vs = []) ∨ ∃ b rest, x = .arr sz b 0 vs.length ∧ blkCells hp b = some (flat vs ++ rest) ∧ n ≤ b ∧ AggN sz vs
theorem RowN.rowT {n sz : Nat} {hp : List Blk} {x : AV} {vs : List AV} (h : RowN n sz hp x vs) : RowT n sz hp x vs := by
  rcases h with h | ⟨b, h1, h2, h3, h4⟩
  · exact .inl h
  · exact .inr ⟨b, [], h1, by simpa using h2, h3, h4⟩
theorem RowT.elems {n sz : Nat} {hp : List Blk} {x : AV} {vs : List AV} (h : RowT n sz hp x vs) (h1 : sz ≠ 1) : elems hp sz x = some vs := by
  rcases h with ⟨rfl, rfl⟩ | ⟨b, rest, rfl, h2, _, h4⟩
  · rfl
  · have := chunk_flat (rest := rest) h1 h4
    simp only [E.elems, h2, List.drop_zero]
    simpa using this
theorem slice_row_from {t : TypeId} {sz b len i : Nat} {hp : List Blk} {xs : List AV} {k : IntKind} (h : blkCells hp b = some xs) (ht : isSlcT C t sz = true) (hi : i < len) : ∀ ts, sliceE C ⟨ts, hp⟩ t (.v (.arr sz b 0 len)) (some (.int k (i : Int))) none none = some (.arr sz b (i * sz) (len - i)) := by
  intro ts
  unfold isSlcT at ht
  split at ht
  · rename_i e _ _ _ _ h1
    split at ht
    · rename_i ei h2
      have e1 : decide ((i : Int) < 0) = false := decide_eq_false (by omega)
      have e2 : decide (i ≤ len) = true := decide_eq_true (by omega)
      have e3 : (i == len) = false := by simp; omega
      simp only [sliceE, h1, h2, bnd, h, e1, e2, e3, ht, Int.toNat_natCast, Nat.le_refl, decide_true, Bool.and_self, Bool.not_true, cond_false rfl, Bool.false_and, Nat.zero_add]
    · cases ht
  · cases ht
theorem slice_row_to {t : TypeId} {sz b len i : Nat} {hp : List Blk} {xs : List AV} {k : IntKind} (h : blkCells hp b = some xs) (ht : isSlcT C t sz = true) (hi : i < len) : ∀ ts, sliceE C ⟨ts, hp⟩ t (.v (.arr sz b 0 len)) none (some (.int k (i : Int))) none = some (.arr sz b 0 i) := by
  intro ts
  unfold isSlcT at ht
  split at ht
  · rename_i e _ _ _ _ h1
    split at ht
    · rename_i ei h2
      have e1 : decide ((i : Int) < 0) = false := decide_eq_false (by omega)
      have e2 : decide (i ≤ len) = true := decide_eq_true (by omega)
      have e3 : decide (0 ≤ i) = true := decide_eq_true (by omega)
      have e4 : (!((0 : Nat) == 0)) = false := rfl
      simp only [sliceE, h1, h2, bnd, h, e1, e2, e3, e4, ht, Int.toNat_natCast, Bool.and_self, Bool.not_true, cond_false rfl, Bool.and_false, Nat.zero_add, Nat.zero_mul, Nat.sub_zero]
    · cases ht
  · cases ht
/-- what clearing the rest of a row makes of it -/
theorem clear_row {t : TypeId} {fl sz b len i : Nat} {hp : List Blk} {xs : List AV} (h : blkCells hp b = some (flat xs)) (ha : AggN sz xs) (hi : i < xs.length) (hl : len = xs.length - i) (ht : isSlcT C t sz = true) (h0 : sz ≠ 0) (hf : fl ≤ b) :
    ∃ hp' rest, (∀ ts, builtinE C fl true ⟨ts, hp⟩ .clear [t] [.arr sz b (i * sz) len] = some ⟨.v (.tup []), ts, hp', .hw⟩) ∧ hp' = setAt hp b (.cells (flat (xs.take i) ++ rest)) ∧ blkCells hp' b = some (flat (xs.take i) ++ rest) := by
  subst hl
  unfold isSlcT at ht
  split at ht
  · rename_i e _ _ _ _ h1
    split at ht
    · rename_i ei h2
      have e0 : (ei.size == 0) = false := by
        have : sz = ei.size := by simpa using ht
        rw [← this]; simpa using h0
      have e1 : decide (fl ≤ b) = true := decide_eq_true hf
      have e2 : decide (i * sz + (xs.length - i) * sz ≤ (flat xs).length) = true := decide_eq_true (by
        rw [flat_len ha, ← Nat.add_mul, show i + (xs.length - i) = xs.length by omega]
        exact Nat.le_refl _)
      have key : ∀ (l y : List AV) (k : Nat), k ≤ l.length → ∃ r, splice l k y = l.take k ++ r := by
        intro l y
        induction l with
        | nil => intro k hk; have : k = 0 := by simpa using hk
                 subst this; exact ⟨_, rfl⟩
        | cons a l ih =>
          intro k hk
          cases k with
          | zero => exact ⟨_, rfl⟩
          | succ k =>
            obtain ⟨r, hr⟩ := ih k (by simpa using hk)
            exact ⟨r, by simp only [splice, hr, List.take_succ_cons, List.cons_append]⟩
      obtain ⟨r, hr⟩ := key (flat xs) (zeros ei (xs.length - i)) (i * sz) (by rw [flat_len ha]; exact Nat.mul_le_mul_right _ (by omega))
      have e3 : (flat xs).take (i * sz) = flat (xs.take i) := by
        have e4 := List.take_append_drop i xs
        have e5 : flat xs = flat (xs.take i) ++ flat (xs.drop i) := by rw [← flat_app, e4]
        have e6 : (flat (xs.take i)).length = i * sz := by rw [flat_len ha.take, List.length_take, Nat.min_eq_left (by omega)]
        rw [e5, List.take_append_of_le_length (by omega), List.take_of_length_le (by omega)]
      refine ⟨_, r, fun ts => ?_, rfl, blk_set (blk_lt h)⟩
      rw [← e3, ← hr]
      simp only [builtinE, clearE, h1, h2, h, ht, e0, e1, e2, Bool.not_false, Bool.and_self, cond_true rfl]
    · cases ht
  · cases ht
theorem NodesR.cons_inv {n : Node} {l : List Node} {ws : List AV} (h : NodesR (n :: l) ws) : ∃ ks us, ws = nAV n ks :: us ∧ KidsR n.kids ks ∧ NodesR l us := by
  obtain ⟨h1, h2⟩ := h
  cases ws with
  | nil => simp at h1
  | cons w us =>
    obtain ⟨ks, rfl, hk⟩ := (h2 0 n w rfl rfl).to
    exact ⟨ks, us, rfl, hk, by simpa using h1, fun i k v hk hv => h2 (i + 1) k v (by simpa using hk) (by simpa using hv)⟩
end Go.Proofs.YtanopbolgfcojaaGreatDoor.E
namespace Go.Proofs.YtanopbolgfcojaaGreatDoor.E
open Go E.R
section
variable {C:Cfg}
def Dep:Nat→Node→Prop
 | 0,_=>False
 | d + 1,n=>∀ k ∈ n.kids,Dep d k
theorem Dep.mono:∀ {d e:Nat} {n:Node},Dep d n→d≤e→Dep e n
 | 0,_,_,h,_=>h.elim
 | d + 1,0,_,_,h=>by omega
 | d + 1,e + 1,_,h,he=>fun k hk=>Dep.mono (h k hk) (by omega)
theorem mapO_ex {f:AV→Option AV} {vs:List AV} (h:∀ v ∈ vs,∃ w,f v=some w):∃ ws,mapO f vs=some ws∧ws.length=vs.length∧∀ (i:Nat) (v w:AV),vs[i]?=some v→ws[i]?=some w→f v=some w:=by
 induction vs with
 | nil=>exact ⟨[],rfl,rfl,fun i v w h=>by simp at h⟩
 | cons v vs ih =>
  obtain ⟨w,hw⟩:=h v (by simp)
  obtain ⟨ws,h1,h2,h3⟩:=ih fun u hu=>h u (by simp [hu])
  refine ⟨w::ws,by simp [mapO,hw,h1],by simp [h2],fun i a b ha hb => ?_⟩
  cases i with
  | zero=>simp at ha hb;subst ha;subst hb;exact hw
  | succ i=>exact h3 i a b (by simpa using ha) (by simpa using hb)
theorem shut_agg {hp:List Blk} {k D:Nat} {n:Node} {ks ks':AV} (h:shutV hp k D ks=some ks') (hD:0 < D):shutV hp k (D + 1) (nAV n ks)=some (nAV n ks'):=by
 obtain ⟨D,rfl⟩:∃ e,D=e + 1:=⟨D - 1,by omega⟩
 show (mapO (shutV hp k (D + 1)) [_,_,_,_,_,_,_,ks]).map AV.agg=_
 simp only [mapO,h]
 simp only [shutV,Option.map]
def shOwn (k:Nat):Own→Own
 | .fam g s=>bif decide (g < k) then .fam g s else .sealed
 | o=>o
theorem mapO_cong {f g:AV→Option AV}:∀ {vs:List AV},(∀ v ∈ vs,f v=g v)→mapO f vs=mapO g vs
 | [],_=>rfl
 | v::vs,h=>by
  unfold mapO
  rw [h v (by simp),mapO_cong (vs:=vs) fun u hu=>h u (by simp [hu])]
theorem shut_node:∀ {d:Nat} {n:Node} {v:AV} (k D:Nat),Dep d n→NodeR n v→2 * d≤D→∃ v',(∀ hp,shutV hp k D v=some v')∧NodeR n v'
 | 0,_,_,_,_,h,_,_=>h.elim
 | d + 1,n,v,k,D,h,hv,hD=>by
  obtain ⟨ks,rfl,us,h1,h2⟩:=hv.to
  obtain ⟨D,rfl⟩:∃ e,D=e + 2:=⟨D - 2,by omega⟩
  rcases h1 with ⟨rfl,rfl⟩ | ⟨o,rfl⟩
  ·exact ⟨nAV n .nilS,fun hp=>shut_agg rfl (by omega), .of ⟨[], .nil _,h2⟩⟩
  ·have key:∀ v ∈ us,∃ w,(∀ hp,shutV hp k D v=some w)∧∀ q ∈ n.kids,NodeR q v→NodeR q w:=fun v hv=>by
    obtain ⟨i,hi,he⟩:=List.mem_iff_getElem.1 hv
    have hl:i < n.kids.length:=by rw [← h2.1];exact hi
    have hN:=h2.2 i n.kids[i] v (List.getElem?_eq_getElem hl) (by rw [List.getElem?_eq_getElem hi,he])
    obtain ⟨w,hw,_⟩:=shut_node k D (h _ (List.getElem_mem hl)) hN (by omega)
    refine ⟨w,hw,fun q hq hN' => ?_⟩
    obtain ⟨w',hw',hr⟩:=shut_node k D (h q hq) hN' (by omega)
    have:=(hw []).symm.trans (hw' [])
    cases this
    exact hr
   obtain ⟨ws,g1,g2,g3⟩:=mapO_ex (f:=shutV [] k D) fun v hv=>let ⟨w,hw,_⟩:=key v hv;⟨w,hw []⟩
   have g4:∀ hp,mapO (shutV hp k D) us=some ws:=fun hp=>(mapO_cong fun v hv=>by obtain ⟨w,hw,_⟩:=key v hv;rw [hw hp,hw []]).trans g1
   refine ⟨nAV n (.lit 8 (shOwn k o) ws),fun hp=>shut_agg (by simp only [shutV,g4];cases o <;> rfl) (by omega), .of ⟨ws, .lit _ _ _,g2.trans h2.1,fun i q w hq hw => ?_⟩⟩
   have hi:i < us.length:=by rw [← g2];exact (List.getElem?_eq_some_iff.1 hw).1
   obtain ⟨w',e1,e2⟩:=key us[i] (List.getElem_mem hi)
   have:=g3 i us[i] w (List.getElem?_eq_getElem hi) hw
   rw [e1] at this
   cases this
   exact e2 q (List.mem_of_getElem? hq) (h2.2 i q us[i] hq (List.getElem?_eq_getElem hi))
theorem shut_rowT {d n0 k D:Nat} {hp:List Blk} {x:AV} {us:List AV} {l:List Node} (h:RowT n0 8 hp x us) (hR:NodesR l us) (hd:∀ q ∈ l,Dep d q) (hk:k≤n0) (hD:2 * d + 1≤D):∃ x',shutV hp k D x=some x'∧KidsR l x':=by
 have he:=h.elems (by decide)
 obtain ⟨D,rfl⟩:∃ e,D=e + 1:=⟨D - 1,by omega⟩
 rcases h with ⟨rfl,rfl⟩ | ⟨b,rest,rfl,h2,h3,h4⟩
 ·exact ⟨.nilS,rfl,[], .nil _,hR⟩
 ·have key:∀ v ∈ us,∃ w,(∀ hp,shutV hp k D v=some w)∧∀ q ∈ l,NodeR q v→NodeR q w:=fun v hv=>by
   obtain ⟨i,hi,e⟩:=List.mem_iff_getElem.1 hv
   have hl:i < l.length:=by rw [← hR.1];exact hi
   have hN:=hR.2 i l[i] v (List.getElem?_eq_getElem hl) (by rw [List.getElem?_eq_getElem hi,e])
   obtain ⟨w,hw,_⟩:=shut_node k D (hd _ (List.getElem_mem hl)) hN (by omega)
   refine ⟨w,hw,fun q hq hN' => ?_⟩
   obtain ⟨w',hw',hr⟩:=shut_node k D (hd q hq) hN' (by omega)
   have:=(hw []).symm.trans (hw' [])
   cases this
   exact hr
  obtain ⟨ws,g1,g2,g3⟩:=mapO_ex (f:=shutV hp k D) fun v hv=>let ⟨w,hw,_⟩:=key v hv;⟨w,hw hp⟩
  have e1:decide (b < k)=false:=decide_eq_false (by omega)
  refine ⟨.lit 8 .sealed ws,by simp only [shutV,e1,cond_false rfl,he,g1,Option.map],ws, .lit _ _ _,g2.trans hR.1,fun i q w hq hw => ?_⟩
  have hi:i < us.length:=by rw [← g2];exact (List.getElem?_eq_some_iff.1 hw).1
  obtain ⟨w',e1,e2⟩:=key us[i] (List.getElem_mem hi)
  have:=g3 i us[i] w (List.getElem?_eq_getElem hi) hw
  rw [e1] at this
  cases this
  exact e2 q (List.mem_of_getElem? hq) (hR.2 i q us[i] hq (List.getElem?_eq_getElem hi))
theorem load_0 {t:TypeId} {b:Nat} {hp:List Blk} {n:Node} {ks:AV} {rest:List AV} (h:blkCells hp b=some (flat [nAV n ks]++rest)) (ht:isAggT C t 8=true):∀ ts,loadAt C ⟨ts,hp⟩ t (.v (.ptr b 0))=some ⟨.v (nAV n ks),ts,hp, .hb b⟩:=by
 intro ts
 obtain ⟨f,p,q,r,h1⟩:=isAggT_ty ht
 simp [loadAt,h1,h,part,TK.agg,flat,AV.cells]
end
section
variable {C:Cfg}
structure Row2 (n rb:Nat) (hp0 hp:List Blk) (x y:AV) (A O:List AV):Prop where
 len:n≤hp.length
 old:∀ b,b < n→b≠rb→getAt hp b=getAt hp0 b
 fams:∀ b,n≤b→b < hp.length→∃ k,getAt hp b=some (.fam k)
 gx:Gr n 8 hp x A
 gy:Gr n 8 hp y O
 ne:∀ g h,x = .lit 8 (.fam g 0) A→y = .lit 8 (.fam h 0) O→g≠h
theorem Row2.start {n rb:Nat} {hp:List Blk} (h:n=hp.length):Row2 n rb hp hp .nilS .nilS [] [] :=
 ⟨by omega,fun _ _ _=>rfl,fun b h1 h2=>by omega, .nil _ _ _, .nil _ _ _,fun g h e=>by cases e⟩
theorem Row2.frE {n rb:Nat} {hp0 hp hp':List Blk} {x y:AV} {A O cs:List AV} (h:Row2 n rb hp0 hp x y A O) (hf:FrE [rb] hp hp') (hb:blkCells hp rb=some cs) (hr:rb < n):Row2 n rb hp0 hp' x y A O :=
 ⟨by rw [hf.1];exact h.len,fun b h1 h2=>by rw [hf.2 b (by simpa using h2)];exact h.old b h1 h2,fun b h1 h2=>by rw [hf.2 b (by simp;omega)];exact h.fams b h1 (by rw [hf.1] at h2;exact h2),gr_frE hf h.gx hb,gr_frE hf h.gy hb,h.ne⟩
theorem Row2.frE2 {n rb:Nat} {hp0 hp h1 h2:List Blk} {x y:AV} {A O cs:List AV} (h:Row2 n rb hp0 hp x y A O) (hf:FrE [rb] hp h1) (hf2:FrE [rb] h1 h2) (hb:blkCells hp rb=some cs) (hr:rb < n):Row2 n rb hp0 h2 x y A O:=h.frE (hf.trans hf2) hb hr
theorem getAt_set_ne {hp:List Blk} {a b:Nat} {z:Blk} (h:b≠a):getAt (setAt hp a z) b=getAt hp b:=by
 simp only [getAt_eq,setAt_eq];rw [List.getElem?_set_ne (fun e=>h e.symm)]
theorem getAt_set_self {hp:List Blk} {a:Nat} {z:Blk} (h:a < hp.length):getAt (setAt hp a z) a=some z:=by
 simp only [getAt_eq,setAt_eq];rw [List.getElem?_set_self h]
theorem getAt_app_lt {hp l:List Blk} {a:Nat} (h:a < hp.length):getAt (hp++l) a=getAt hp a:=by
 simp only [getAt_eq];rw [List.getElem?_append_left h]
theorem getAt_app_last {hp:List Blk} {z:Blk}:getAt (hp++[z]) hp.length=some z:=by
 simp only [getAt_eq];rw [List.getElem?_append_right (Nat.le_refl _),Nat.sub_self];rfl
theorem getAt_lt {hp:List Blk} {a:Nat} {z:Blk} (h:getAt hp a=some z):a < hp.length:=by
 rw [getAt_eq] at h;exact (List.getElem?_eq_some_iff.1 h).1
theorem Row2.append_y {fl n rb:Nat} {hp0 hp:List Blk} {x y v:AV} {A O:List AV} {t:TypeId} {o:Own} (h:Row2 n rb hp0 hp x y A O) (ht:elT C t 8 80=true) (hl:O.length + 1≤100000) (hf:fl≤n) (hr:rb < n) :
  ∃ y' hp',(∀ ts,builtinE C fl false ⟨ts,hp⟩ .append [t,t] [y, .lit 8 o [v]]=some ⟨.v y',ts,hp', .fw⟩)∧Row2 n rb hp0 hp' x y' A (O++[v])∧∀ cs,blkCells hp rb=some cs→blkCells hp' rb=some cs:=by
 obtain ⟨e,a,b,c,d,ei,h1,h2,e3,e4,h5,h6⟩:=elT_ty ht
 have k5:(ei.size==0)=false:=by rw [e3];rfl
 have k6:(ei.bytes==0)=false:=by rw [e4];rfl
 have hl':decide ((O.length + 1) * ei.bytes≤35184372088832)=true:=decide_eq_true (by rw [e4];omega)
 rcases h.gy with ⟨rfl,rfl⟩ | ⟨g,rfl,h3,h4⟩
 ·refine ⟨.lit 8 (.fam hp.length 0) [v],hp++[.fam 1],fun ts => ?_,⟨?_, ?_, ?_, ?_, ?_, ?_⟩,fun cs hc=>blk_app hc⟩
  ·have n1:elems hp 8 .nilS=some []:=rfl
   have n2:elems hp 8 (.lit 8 o [v])=some [v]:=elems_lit'
   have n3:isSlc .nilS=true:=rfl
   have n4:isArr .nilS=false:=rfl
   have n5:isArr (.lit 8 o [v])=false:=rfl
   simp only [List.length_nil] at hl'
   simp [builtinE,appendE,appElems,h1,h2,e3,e4,n1,n2,n3,n4,n5]
  ·simp;have:=h.len;omega
  ·intro b hb hb2;rw [getAt_app_lt (by have:=h.len;omega)];exact h.old b hb hb2
  ·intro b hb hb2
   by_cases hbe:b=hp.length
   ·subst hbe;exact ⟨1,getAt_app_last⟩
   ·rw [List.length_append] at hb2;simp at hb2
    rw [getAt_app_lt (by omega)];exact h.fams b hb (by omega)
  ·rcases h.gx with h' | ⟨g,g1,g2,g3⟩
   ·exact .inl h'
   ·exact .inr ⟨g,g1,by rw [getAt_app_lt (getAt_lt g2)];exact g2,g3⟩
  ·exact .inr ⟨hp.length,rfl,getAt_app_last,h.len⟩
  ·intro g k e5 e6
   rcases h.gx with ⟨rfl,_⟩ | ⟨g',g1,g2,g3⟩
   ·cases e5
   ·rw [g1] at e5;cases e5;cases e6
    have:=getAt_lt g2;omega
 ·have hg:=getAt_lt h3
  have hgb:rb≠g:=by omega
  refine ⟨.lit 8 (.fam g 0) (O++[v]),setAt hp g (.fam (O.length + 1)),fun ts => ?_,⟨?_, ?_, ?_, ?_, ?_, ?_⟩,fun cs hc=>by unfold blkCells at *;rw [getAt_set_ne hgb];exact hc⟩
  ·have n1:elems hp 8 (.lit 8 (.fam g 0) O)=some O:=elems_lit'
   have n2:elems hp 8 (.lit 8 o [v])=some [v]:=elems_lit'
   have n3:isSlc (.lit 8 (.fam g 0) O)=true:=rfl
   have n4:isArr (.lit 8 (.fam g 0) O)=false:=rfl
   have n5:isArr (.lit 8 o [v])=false:=rfl
   have n6:decide (fl≤g)=true:=decide_eq_true (by omega)
   have n7:decide ((O.length + 1) * 80≤35184372088832)=true:=decide_eq_true (by omega)
   simp only [builtinE,appendE,appElems,h1,h2,e3,e4,n1,n2,n3,n4,n5,n6,n7,h3,List.length_cons,List.length_nil,Nat.zero_add,Bool.not_true,Bool.or_self,cond_false rfl,cond_true rfl,beq_self_eq_true,Bool.and_self]
   rfl
  ·rw [setAt_length];exact h.len
  ·intro b hb hb2;rw [getAt_set_ne (by omega)];exact h.old b hb hb2
  ·intro b hb hb2
   by_cases hbe:b=g
   ·subst hbe;exact ⟨_,getAt_set_self hg⟩
   ·rw [setAt_length] at hb2;rw [getAt_set_ne hbe];exact h.fams b hb hb2
  ·rcases h.gx with h' | ⟨g',g1,g2,g3⟩
   ·exact .inl h'
   ·exact .inr ⟨g',g1,by rw [getAt_set_ne (h.ne g' g g1 rfl)];exact g2,g3⟩
  ·exact .inr ⟨g,rfl,by rw [getAt_set_self hg];simp,h4⟩
  ·intro g' k e5 e6
   cases e6
   exact h.ne g' g e5 rfl
theorem Row2.swap {n rb:Nat} {hp0 hp:List Blk} {x y:AV} {A O:List AV} (h:Row2 n rb hp0 hp x y A O):Row2 n rb hp0 hp y x O A:=⟨h.len,h.old,h.fams,h.gy,h.gx,fun g k e1 e2 e=>h.ne k g e2 e1 e.symm⟩
theorem Row2.drop_y {n rb:Nat} {hp0 hp:List Blk} {x y:AV} {A O:List AV} (h:Row2 n rb hp0 hp x y A O):Row2 n rb hp0 hp x .nilS A []:=⟨h.len,h.old,h.fams,h.gx, .nil _ _ _,fun g k _ e2=>by cases e2⟩
theorem Row2.append_x {fl n rb:Nat} {hp0 hp:List Blk} {x y v:AV} {A O:List AV} {t:TypeId} {o:Own} (h:Row2 n rb hp0 hp x y A O) (ht:elT C t 8 80=true) (hl:A.length + 1≤100000) (hf:fl≤n) (hr:rb < n) :
  ∃ x' hp',(∀ ts,builtinE C fl false ⟨ts,hp⟩ .append [t,t] [x, .lit 8 o [v]]=some ⟨.v x',ts,hp', .fw⟩)∧Row2 n rb hp0 hp' x' .nilS (A++[v]) []∧∀ cs,blkCells hp rb=some cs→blkCells hp' rb=some cs:=by
 obtain ⟨x',hp',h1,h2,h3⟩:=h.swap.append_y (v:=v) (o:=o) ht hl hf hr
 exact ⟨x',hp',h1,h2.swap.drop_y,h3⟩
theorem Row2.take' {rb:Nat} {hp0 hp:List Blk} {x y:AV} {A O cs:List AV} (h:Row2 hp0.length rb hp0 hp x y A O) (hb:blkCells hp rb=some cs) (hr:rb < hp0.length):hp.take hp0.length=setAt hp0 rb (.cells cs):=by
 apply List.ext_getElem?
 intro i
 by_cases hi:i < hp0.length
 ·rw [List.getElem?_take_of_lt hi,← getAt_eq,← getAt_eq]
  by_cases hr':i=rb
  ·subst hr'
   rw [getAt_set_self hr]
   unfold blkCells at hb
   split at hb
   ·rename_i e;cases hb;exact e
   ·cases hb
  ·rw [getAt_set_ne hr'];exact h.old i hi hr'
 ·rw [List.getElem?_eq_none (by rw [List.length_take];omega),List.getElem?_eq_none (by rw [setAt_length];omega)]
theorem cloH_setC {n rb:Nat} {hp:List Blk} {cs:List AV} (h:cloH n hp=true) (hc:cloAs n cs=true):cloH n (setAt hp rb (.cells cs))=true:=by
 unfold cloH at *
 rw [List.all_eq_true] at h ⊢
 intro b hb
 rw [setAt_eq] at hb
 rcases List.mem_or_eq_of_mem_set hb with hb | rfl
 ·exact h b hb
 ·exact hc
theorem clo_rd {n rb p:Nat} {hp:List Blk} {s:List UInt8} {bad:Int} (h:cloH n hp=true):cloH n (setAt hp rb (.cells [.str s, .int .i64 p, .int .i64 bad]))=true:=cloH_setC h rfl
end
mutual
theorem cloA_mono {n k:Nat} (hk:n≤k):∀ (v:AV),cloA n v=true→cloA k v=true
 | .ptr b o,h=>by simp only [cloA,decide_eq_true_eq] at *;omega
 | .rop x,h=>by rw [cloA] at *;exact cloA_mono hk x h
 | .lit sz own xs,h=>by
  rw [cloA,Bool.and_eq_true] at *
  refine ⟨?_,cloAs_mono hk xs h.2⟩
  have h1:=h.1
  cases own with
  | fam g s=>simp only [ownC,decide_eq_true_eq] at *;omega
  | _=>rfl
 | .arr sz b o l,h=>by simp only [cloA,decide_eq_true_eq] at *;omega
 | .fn f a b,h=>by rw [cloA,Bool.and_eq_true] at *;exact ⟨cloAs_mono hk a h.1,cloAs_mono hk b h.2⟩
 | .iface t x,h=>by rw [cloA] at *;exact cloA_mono hk x h
 | .agg cs,h=>by rw [cloA] at *;exact cloAs_mono hk cs h
 | .tup cs,h=>by rw [cloA] at *;exact cloAs_mono hk cs h
 | .bool b,_=>rfl
 | .int k i,_=>rfl
 | .str s,_=>rfl
 | .nilP,_=>rfl
 | .nilS,_=>rfl
 | .nilF,_=>rfl
 | .nilI,_=>rfl
 | .nilM,_=>rfl
theorem cloAs_mono {n k:Nat} (hk:n≤k):∀ (xs:List AV),cloAs n xs=true→cloAs k xs=true
 | [],_=>rfl
 | x::xs,h=>by rw [cloAs,Bool.and_eq_true] at *;exact ⟨cloA_mono hk x h.1,cloAs_mono hk xs h.2⟩
end
theorem cloB_mono {n k:Nat} (hk:n≤k):∀ (b:Blk),cloB n b=true→cloB k b=true
 | .cells cs,h=>cloAs_mono hk cs h
 | .dead,_=>rfl
 | .fam _,_=>rfl
theorem cloH_mono {n k:Nat} {hp:List Blk} (hk:n≤k) (h:cloH n hp=true):cloH k hp=true:=by
 unfold cloH at *
 rw [List.all_eq_true] at *
 exact fun b hb=>cloB_mono hk b (h b hb)
theorem Row2.clo {n rb p:Nat} {hp0 hp:List Blk} {x y:AV} {A O:List AV} {s:List UInt8} {bad:Int} (h:Row2 n rb hp0 hp x y A O) (hc:cloH n hp0=true) (hb:blkCells hp rb=some [.str s, .int .i64 p, .int .i64 bad]):cloH hp.length hp=true:=by
 unfold cloH at *
 rw [List.all_eq_true] at *
 intro z hz
 obtain ⟨i,hi,rfl⟩:=List.mem_iff_getElem.1 hz
 have hg:getAt hp i=some hp[i]:=by rw [getAt_eq,List.getElem?_eq_getElem hi]
 by_cases hin:i < n
 ·by_cases hr:i=rb
  ·subst hr
   unfold blkCells at hb
   rw [hg] at hb
   generalize hp[i]=z at hb
   cases z with
   | cells cs=>dsimp only at hb;cases hb;rfl
   | _=>rfl
  ·have h1:=h.old i hin hr
   rw [hg] at h1
   have h2:=hc hp[i] (by rw [getAt_eq] at h1;exact List.mem_of_getElem? h1.symm)
   exact cloB_mono h.len _ h2
 ·obtain ⟨k,hk⟩:=h.fams i (by omega) hi
  rw [hg] at hk
  have:=Option.some.inj hk
  rw [this]
  rfl
end Go.Proofs.YtanopbolgfcojaaGreatDoor.E
namespace Go.Proofs.YtanopbolgfcojaaGreatDoor.E
open Go Go.RowKit Go.Lib
section
variable {P : Program} {C : Cfg}

/-! strconv.FormatInt and strconv.ParseInt -/
def dDig : Nat → Nat → List UInt8
  | 0, _ => []
  | f + 1, u => bif Nat.blt u 10 then [UInt8.ofNat (48 + u)] else dDig f (u / 10) ++ [UInt8.ofNat (48 + u % 10)]
theorem dDig_eq : ∀ (f u : Nat), u < 10 ^ f → 0 < f → dDig f u = decDigits u
  | 0, _, _, h => by omega
  | f + 1, u, h, _ => by
    unfold dDig
    rw [decDigits]
    by_cases hu : u < 10
    · rw [dif_pos hu, cond_true (show Nat.blt u 10 = true by rw [Nat.blt_eq]; exact hu)]
    · rw [dif_neg hu, cond_false (show Nat.blt u 10 = false from Bool.eq_false_iff.2 fun h => hu (by rwa [Nat.blt_eq] at h))]
      have h' : u < 10 ^ f * 10 := by rw [← Nat.pow_succ]; exact h
      cases f with
      | zero => omega
      | succ f => rw [dDig_eq (f + 1) (u / 10) (by omega) (by omega)]
def itoaE (n : Int) : List UInt8 := bif decide (n < 0) then 45 :: dDig 20 n.natAbs else dDig 20 n.toNat
theorem itoaE_eq {n : Int} (h0 : -9223372036854775808 ≤ n) (h1 : n ≤ 9223372036854775807) : itoaE n = itoa n := by
  unfold itoaE itoa
  rw [cond_eq_ite]
  simp only [decide_eq_true_eq]
  rw [dDig_eq 20 _ (by omega) (by omega), dDig_eq 20 _ (by omega) (by omega)]
def extFmt : List AV → Option AV
  | [.int .i64 n, .int .i64 b] => bif decide (b = 10) && (decide (-9223372036854775808 ≤ n) && decide (n ≤ 9223372036854775807)) then some (.str (itoaE n)) else none
  | _ => none
def FormatSays (P : Program) (f : FuncId) : Prop :=
  ∀ (n : Int) (w : World), -9223372036854775808 ≤ n → n ≤ 9223372036854775807 → TabIs P w "internal/strconv.uint64pow10" .u64 pow10Tab →
    Calls P f #[.int .i64 n, .int .i64 10] w fun e w' => e = .returned (.string ⟨(itoa n).toArray⟩) ∧ Below w.heap.size w w'
/-- a table of numbers that a variable holds -/
def tabAV (k : IntKind) (zs : List Int) : AV := .agg (zs.map fun z => .int k z)
theorem tab_is {B : Nat} {w0 w : World} {L : Lay} {hp : List Blk} {g : Nat} {k : IntKind} {zs : List Int} {name : String} (hI : Inv C.glob B w0 L w hp) (hn : P.globalNamed name = some g) (hg : C.glob g = some (tabAV k zs)) : TabIs P w name k zs := by
  obtain ⟨hB, cs, t, q, h1, h2⟩ := hI.kept g _ hg
  have h3 : w.heap[g]? = some (.cells cs t q) := (hI.below.block g hB).trans h1
  have hl : cs.size = zs.length := by rw [h2]; simp [tabAV, AV.cells]
  unfold TabIs World.var?
  rw [hn]
  simp only [Option.bind_some, h3]
  congr 1
  refine Array.ext (by simp [hl]) fun i hi hi' => ?_
  have := hI.globs g _ hg
  cases this with
  | rop _ _ _ cv k1 k2 k3 =>
    have hz : i < zs.length := by omega
    have e1 := (k1 i (by simp [tabAV, AV.cells]; exact hz)).1
    have e2 := k3 i (.int k zs[i]) (by simp [tabAV, AV.cells, hz])
    have e3 : cv i = .int k zs[i] := by
      generalize cv i = u at e2
      cases e2; rfl
    rw [e3] at e1
    have e4 : w.cell? ⟨g, 0 + i, none⟩ = cs[i]? := by
      unfold World.cell?
      simp [h3]
    rw [e4, Array.getElem?_eq_getElem hi] at e1
    simp at e1
    simp [e1]
theorem extFmt_ok {f : FuncId} {fn : Func} {g : Nat} (hf : P.funcs[f]? = some fn) (hb : fn.body.isSome = true) (hname : (fn.name == "runtime.NumGoroutine") = false) (hS : FormatSays P f) (hn : P.globalNamed "internal/strconv.uint64pow10" = some g) (hg : C.glob g = some (tabAV .u64 pow10Tab))
    (args : List AV) (v : AV) (hp : List Blk) (hv : extFmt args = some v) (B : Nat) (w0 : World) (L : Lay) (w : World) (rargs : List Value) (hI : Inv C.glob B w0 L w hp) (hA : CR hp.length L w args rargs) :
    FCalls P f rargs.toArray w (CallPost C B w0 L w hp.length v hp) := by
  refine fcalls_calls hf hb hname ?_
  unfold extFmt at hv
  split at hv
  · rename_i n b
    simp only [cond_eq_ite] at hv
    split at hv
    · rename_i hc
      cases hv
      simp only [decide_eq_true_eq, Bool.and_eq_true] at hc
      obtain ⟨rfl, c1, c2⟩ := hc
      obtain ⟨hl, hA⟩ := hA
      obtain ⟨r0, r1, rfl⟩ : ∃ r0 r1, rargs = [r0, r1] := by
        match rargs, hl with
        | [a, b], _ => exact ⟨a, b, rfl⟩
      have h0 := hA 0 _ r0 rfl rfl
      have h1 := hA 1 _ r1 rfl rfl
      cases h0 with | int _ _ => ?_
      cases h1 with | int _ _ => ?_
      refine Calls.mono (hS n w c1 c2 (tab_is hI hn hg)) fun e w' ⟨he, hw⟩ => ?_
      subst he
      refine grow_post hI hw ?_
      rw [itoaE_eq c1 c2]
      exact .str _ _ (by simp)
    · cases hv
  · cases hv

def txPI : List UInt8 := [80, 97, 114, 115, 101, 73, 110, 116]
/-- strconv.ParseInt: T: the type of a pointer to what went wrong; eS, eR: what the two variables hold -/
def extPI (T : TypeId) (eS eR : AV) : List AV → Option AV
  | [.str s, .int .i64 b, .int .i64 z] => bif decide (b = 10) && (decide (z = 64) && decide (s.length ≤ 281474976710656)) then
      (match parseIntB 64 s with
      | .ok v => some (.tup [.int .i64 v, .nilI])
      | .range => some (.tup [.int .i64 (intSat 64 s), .iface T (.rop (.agg [.str txPI, .str s, eR]))])
      | _ => some (.tup [.int .i64 0, .iface T (.rop (.agg [.str txPI, .str s, eS]))])) else none
  | _ => none
def ParseSays (P : Program) (f : FuncId) (T q : TypeId) (gS gR : Nat) : Prop :=
  ∀ (s : ByteArray) (w : World), s.size ≤ 281474976710656 →
    (∀ v, parseIntB 64 s.data.toList = .ok v → Calls P f #[.string s, .int .i64 10, .int .i64 64] w fun e w' => e = .returned (.tuple #[.int .i64 v, .nilIface]) ∧ Below w.heap.size w w') ∧
    (∀ te pe, (∀ v, parseIntB 64 s.data.toList ≠ .ok v) → parseIntB 64 s.data.toList ≠ .range → w.cell? ⟨gS, 0, none⟩ = some (.iface te pe) → Calls P f #[.string s, .int .i64 10, .int .i64 64] w fun e w' => ∃ N, e = .returned (.tuple #[.int .i64 0, .iface T (.pointer (some ⟨N, 0, none⟩))]) ∧ w.heap.size ≤ N ∧ w'.heap[N]? = some (.cells #[.string ⟨#[80, 97, 114, 115, 101, 73, 110, 116]⟩, .string s, .iface te pe] q (0, 0)) ∧ Below w.heap.size w w') ∧
    (∀ te pe, parseIntB 64 s.data.toList = .range → w.cell? ⟨gR, 0, none⟩ = some (.iface te pe) → Calls P f #[.string s, .int .i64 10, .int .i64 64] w fun e w' => ∃ N, e = .returned (.tuple #[.int .i64 (intSat 64 s.data.toList), .iface T (.pointer (some ⟨N, 0, none⟩))]) ∧ w.heap.size ≤ N ∧ w'.heap[N]? = some (.cells #[.string ⟨#[80, 97, 114, 115, 101, 73, 110, 116]⟩, .string s, .iface te pe] q (0, 0)) ∧ Below w.heap.size w w')
/-- the lay in which new cells that nobody owns are not written -/
def immL (L : Lay) (lo hi : Nat) : Lay where
  loc := L.loc
  ext := L.ext
  fam := L.fam
  who r o := if lo ≤ r ∧ r < hi then .imm else L.who r o
theorem imm_post {B : Nat} {w0 : World} {L : Lay} {w w' : World} {hp : List Blk} (h : Inv C.glob B w0 L w hp) (hb : Below w.heap.size w w') {v : AV} {rv : Value} (hv : Inv C.glob B w0 (immL L w.heap.size w'.heap.size) w' hp → VR hp.length (immL L w.heap.size w'.heap.size) w' v rv) :
    CallPost C B w0 L w hp.length v hp (.returned rv) w' := by
  have hw : ∀ {r o}, L.who r o ≠ .none → (immL L w.heap.size w'.heap.size).who r o = L.who r o := fun {r o} hne => by
    show (if _ then _ else _) = _
    rw [if_neg]
    rintro ⟨h1, _⟩
    exact hne (h.fresh r o h1)
  have hext : ∀ n, Ext n L w (immL L w.heap.size w'.heap.size) w' := fun n => by
    have g := ext_grow (n := n) h hb
    exact ⟨fun r o hr => ⟨(hw (by rw [hr]; simp)).trans hr, (g.imm r o hr).2⟩, fun b p hb' hp' => ⟨hp', fun r o hr => (hw (by rw [hr]; simp)).trans hr, rfl⟩, fun g F _ hF => ⟨F, hF, .inl rfl⟩⟩
  have hI : Inv C.glob B w0 (immL L w.heap.size w'.heap.size) w' hp := by
    have g := inv_grow h hb
    refine ⟨g.below, g.size, fun b cs hc => ?_, fun r o b hr => ?_, fun gg m hm => ?_, fun r o gg hr => ?_, fun r o hr => ?_, g.noLoc, g.noFam, fun gg v hg => (h.globs gg v hg).mono (Nat.le_refl _) (hext 0), g.kept⟩
    · obtain ⟨p, h1, h2, h3⟩ := h.blks b cs hc
      refine ⟨p, h1, h2, fun j c hj => ?_⟩
      obtain ⟨k1, k2, rv, k3, k4⟩ := h3 j c hj
      exact ⟨(hw (by rw [k1]; simp)).trans k1, k2, rv, (cell_of_block (hb.block _ (low k3))).trans k3, k4.mono (Nat.le_refl _) (hext _)⟩
    · refine g.own r o b ?_
      revert hr
      show (if _ then _ else _) = _ → _
      split
      · intro hr; cases hr
      · exact id
    · obtain ⟨F, h1, h2, h3, h4, h5⟩ := g.fams gg m hm
      exact ⟨F, h1, h2, h3, h4, fun j h6 h7 => (hw (by rw [h5 j h6 h7]; simp)).trans (h5 j h6 h7)⟩
    · refine g.spare r o gg ?_
      revert hr
      show (if _ then _ else _) = _ → _
      split
      · intro hr; cases hr
      · exact id
    · show (if _ then _ else _) = _
      rw [if_neg (by omega)]
      exact h.fresh r o (Nat.le_trans hb.size hr)
  exact ⟨rv, _, rfl, hI, hext _, fun r o t hr hl => ⟨(hw (by rw [hl]; simp)).trans hl, cell_of_block (hb.block _ hr), frozen_of_block (hb.block _ hr)⟩, hb.size, Nat.le_refl _, hv hI⟩
theorem iface_of {n : Nat} {L : Lay} {w : World} {te : TypeId} {x : AV} {v : Value} (h : VR n L w (.iface te x) v) : ∃ p, v = .iface te p := by
  cases h with | iface _ _ p _ => exact ⟨p, rfl⟩
theorem glob_one {B : Nat} {w0 w : World} {L : Lay} {hp : List Blk} {g : Nat} {te : TypeId} {x : AV} (hI : Inv C.glob B w0 L w hp) (hg : C.glob g = some (.iface te x)) : ∃ pe, w.cell? ⟨g, 0, none⟩ = some (.iface te pe) ∧ VR 0 L w (.iface te x) (.iface te pe) := by
  have := hI.globs g _ hg
  cases this with
  | rop _ _ _ cv k1 k2 k3 =>
    have e1 := (k1 0 (by simp [AV.cells])).1
    have e2 := k3 0 (.iface te x) rfl
    obtain ⟨p, hp⟩ := iface_of e2
    rw [hp] at e1 e2
    exact ⟨p, e1, e2⟩
theorem err_vr {n N : Nat} {L : Lay} {w w' : World} {T q : TypeId} {s : ByteArray} {te : TypeId} {pe : Value} {x : AV} (h1 : w.heap.size ≤ N) (h2 : w'.heap[N]? = some (.cells #[.string ⟨#[80, 97, 114, 115, 101, 73, 110, 116]⟩, .string s, .iface te pe] q (0, 0))) (h3 : VR n (immL L w.heap.size w'.heap.size) w' (.iface te x) (.iface te pe)) :
    VR n (immL L w.heap.size w'.heap.size) w' (.iface T (.rop (.agg [.str txPI, .str s.data.toList, .iface te x]))) (.iface T (.pointer (some ⟨N, 0, none⟩))) := by
  have hN : N < w'.heap.size := by
    rcases Nat.lt_or_ge N w'.heap.size with h' | h'
    · exact h'
    · rw [Array.getElem?_eq_none h'] at h2; cases h2
  refine .iface _ _ _ (.rop _ N 0 (fun j => (#[Value.string ⟨#[80, 97, 114, 115, 101, 73, 110, 116]⟩, .string s, .iface te pe][j]?).getD .nilIface) (fun j hj => ⟨?_, ?_⟩) (fun j c hc => ?_) (fun j c hc => ?_))
  · simp [AV.cells] at hj
    unfold World.cell?
    simp only [h2]
    obtain rfl | rfl | rfl : j = 0 ∨ j = 1 ∨ j = 2 := by omega
    all_goals rfl
  · show (if _ then _ else _) = _
    rw [if_pos ⟨h1, hN⟩]
  · obtain rfl | rfl | rfl | h : j = 0 ∨ j = 1 ∨ j = 2 ∨ 3 ≤ j := by omega
    · cases hc; rfl
    · cases hc; rfl
    · cases hc; rfl
    · simp [AV.cells] at hc
      rw [List.getElem?_eq_none (by simpa using h)] at hc
      cases hc
  · obtain rfl | rfl | rfl | h : j = 0 ∨ j = 1 ∨ j = 2 ∨ 3 ≤ j := by omega
    · cases hc; exact .str _ _ rfl
    · cases hc; exact .str _ _ rfl
    · cases hc; exact h3
    · simp [AV.cells] at hc
      rw [List.getElem?_eq_none (by simpa using h)] at hc
      cases hc
theorem tup2 {n : Nat} {L : Lay} {w : World} {a b : AV} {x y : Value} (h1 : VR n L w a x) (h2 : VR n L w b y) : VR n L w (.tup [a, b]) (.tuple #[x, y]) := by
  refine .tup _ _ rfl fun i c hi => ?_
  obtain rfl | rfl | h : i = 0 ∨ i = 1 ∨ 2 ≤ i := by omega
  · cases hi; exact h1
  · cases hi; exact h2
  · rw [List.getElem?_eq_none (by simpa using h)] at hi; cases hi
theorem extPI_ok {f : FuncId} {fn : Func} {T q tS tR : TypeId} {gS gR : Nat} {xS xR : AV} (hf : P.funcs[f]? = some fn) (hb : fn.body.isSome = true) (hname : (fn.name == "runtime.NumGoroutine") = false) (hS : ParseSays P f T q gS gR) (hgS : C.glob gS = some (.iface tS xS)) (hgR : C.glob gR = some (.iface tR xR))
    (args : List AV) (v : AV) (hp : List Blk) (hv : extPI T (.iface tS xS) (.iface tR xR) args = some v) (B : Nat) (w0 : World) (L : Lay) (w : World) (rargs : List Value) (hI : Inv C.glob B w0 L w hp) (hA : CR hp.length L w args rargs) :
    FCalls P f rargs.toArray w (CallPost C B w0 L w hp.length v hp) := by
  refine fcalls_calls hf hb hname ?_
  unfold extPI at hv
  split at hv
  · rename_i s b z
    simp only [cond_eq_ite] at hv
    split at hv
    · rename_i hc
      simp only [decide_eq_true_eq, Bool.and_eq_true] at hc
      obtain ⟨rfl, rfl, c1⟩ := hc
      obtain ⟨hl, hA⟩ := hA
      obtain ⟨r0, r1, r2, rfl⟩ : ∃ r0 r1 r2, rargs = [r0, r1, r2] := by
        match rargs, hl with
        | [a, b, c], _ => exact ⟨a, b, c, rfl⟩
      have h0 := hA 0 _ r0 rfl rfl
      have h1 := hA 1 _ r1 rfl rfl
      have h2 := hA 2 _ r2 rfl rfl
      cases h0 with | str _ bs hs => ?_
      cases h1 with | int _ _ => ?_
      cases h2 with | int _ _ => ?_
      subst hs
      obtain ⟨S1, S2, S3⟩ := hS bs w (by simpa using c1)
      split at hv
      · rename_i u hu
        cases hv
        refine Calls.mono (S1 u hu) fun e w' ⟨he, hw⟩ => ?_
        subst he
        exact grow_post hI hw (tup2 (.int _ _) .nilI)
      · rename_i hu
        cases hv
        obtain ⟨pe, k1, _⟩ := glob_one hI hgR
        refine Calls.mono (S3 tR pe hu k1) fun e w' ⟨N, he, h3, h4, hw⟩ => ?_
        subst he
        refine imm_post hI hw fun hI' => ?_
        obtain ⟨pe', k3, k4⟩ := glob_one hI' hgR
        have : w'.cell? ⟨gR, 0, none⟩ = w.cell? ⟨gR, 0, none⟩ := cell_of_block (hw.block _ (low k1))
        rw [this, k1] at k3
        cases k3
        exact tup2 (.int _ _) (err_vr h3 h4 (k4.mono (Nat.zero_le _) (Ext.refl 0 _ _)))
      · rename_i hu1 hu2
        cases hv
        obtain ⟨pe, k1, _⟩ := glob_one hI hgS
        refine Calls.mono (S2 tS pe (fun v h => hu1 v h) (fun h => hu2 h) k1) fun e w' ⟨N, he, h3, h4, hw⟩ => ?_
        subst he
        refine imm_post hI hw fun hI' => ?_
        obtain ⟨pe', k3, k4⟩ := glob_one hI' hgS
        have : w'.cell? ⟨gS, 0, none⟩ = w.cell? ⟨gS, 0, none⟩ := cell_of_block (hw.block _ (low k1))
        rw [this, k1] at k3
        cases k3
        exact tup2 (.int _ _) (err_vr h3 h4 (k4.mono (Nat.zero_le _) (Ext.refl 0 _ _)))
    · cases hv
  · cases hv
end
theorem tab_glob {P:Program} {W:World} {name:String} {g:Nat} {k:IntKind} {zs:List Int} (hn:P.globalNamed name=some g) (h:TabIs P W name k zs):GlobOK W g (tabAV k zs):=by
 unfold TabIs World.var? at h
 rw [hn] at h
 simp only [Option.bind_some] at h
 cases ho:W.heap[g]? with
 | none=>rw [ho] at h;cases h
 | some o =>
  rw [ho] at h
  cases o with
  | cells cs t q =>
   simp only [Option.some.injEq] at h
   subst h
   have hc:∀ j,W.cell? ⟨g,0 + j,none⟩=(zs.map fun z=>Value.int k z).toArray[j]?:=fun j=>by
    unfold World.cell?
    simp [ho]
   refine ⟨.rop _ g 0 (fun j => .int k (zs.getD j 0)) (fun j hj => ?_) (fun j c hc => ?_) (fun j c hc => ?_),_,t,q,ho,by simp [tabAV,AV.cells]⟩
   ·have hj':j < zs.length:=by simpa [tabAV,AV.cells] using hj
    have e:W.cell? ⟨g,0 + j,none⟩=some (.int k (zs.getD j 0)):=by
     rw [hc j]
     simp [List.getD_eq_getElem?_getD,hj']
    exact ⟨e,imm0 e⟩
   ·simp only [tabAV,AV.cells,List.getElem?_map,Option.map_eq_some_iff] at hc
    obtain ⟨z,_,rfl⟩:=hc
    rfl
   ·simp only [tabAV,AV.cells,List.getElem?_map,Option.map_eq_some_iff] at hc
    obtain ⟨z,hz,rfl⟩:=hc
    rw [List.getD_eq_getElem?_getD,hz]
    exact .int _ _
  | _=>simp at h
theorem err_glob {P:Program} {W:World} {n:String} {g tp:Nat} {a:Addr} {s:ByteArray} {text:List UInt8} (hn:P.globalNamed n=some g) (h1:W.var? P n=some #[.iface tp (.pointer (some a))]) (h2:W.cell? a=some (.string s)) (hs:s.data.toList=text):GlobOK W g (.iface tp (.rop (.agg [.str text]))):=by
 have hv:=h1
 unfold World.var? at h1
 rw [hn] at h1
 simp only [Option.bind_some] at h1
 cases ho:W.heap[g]? with
 | none=>rw [ho] at h1;cases h1
 | some o =>
  rw [ho] at h1
  cases o with
  | cells cs t q =>
   simp only [Option.some.injEq] at h1
   subst h1
   refine ⟨sentinel_vr ?_ h2 hs,_,t,q,ho,by simp [AV.cells]⟩
   unfold World.cell?
   simp [ho]
  | _=>simp at h1
end Go.Proofs.YtanopbolgfcojaaGreatDoor.E
namespace Go.Proofs.YtanopbolgfcojaaGreatDoor.E
open Go E.R
section
variable {C:Cfg}
theorem cloAs_app {n:Nat} {xs ys:List AV}:cloAs n (xs++ys)=true↔cloAs n xs=true∧cloAs n ys=true:=by
 simp only [cloAs_mem,List.mem_append]
 exact ⟨fun h=>⟨fun x hx=>h x (.inl hx),fun x hx=>h x (.inr hx)⟩,fun ⟨h1,h2⟩ x hx=>hx.elim (h1 x) (h2 x)⟩
theorem cloAs_sub {n:Nat} {xs ys:List AV} (h:cloAs n xs=true) (hs:∀ y ∈ ys,y ∈ xs):cloAs n ys=true:=cloAs_mem.2 fun y hy=>cloAs_mem.1 h y (hs y hy)
theorem cloAs_drop {n k:Nat} {xs:List AV} (h:cloAs n xs=true):cloAs n (xs.drop k)=true:=cloAs_sub h fun _ hy=>List.mem_of_mem_drop hy
theorem cloAs_take {n k:Nat} {xs:List AV} (h:cloAs n xs=true):cloAs n (xs.take k)=true:=cloAs_sub h fun _ hy=>List.mem_of_mem_take hy
theorem cloAs_get {n k:Nat} {xs:List AV} {x:AV} (h:cloAs n xs=true) (hx:getAt xs k=some x):cloA n x=true:=by
 rw [getAt_eq] at hx;exact cloAs_mem.1 h x (List.mem_of_getElem? hx)
theorem cloAs_cells {n:Nat} {x:AV}:cloAs n x.cells=cloA n x:=by
 cases x <;> simp [AV.cells,cloAs,cloA]
theorem cloAs_flat {n:Nat}:∀ {xs:List AV},cloAs n xs=true→cloAs n (flat xs)=true
 | [],_=>rfl
 | x::xs,h=>by
  rw [cloAs,Bool.and_eq_true] at h
  exact cloAs_app.2 ⟨by rw [cloAs_cells];exact h.1,cloAs_flat h.2⟩
theorem cloAs_splice {n:Nat}:∀ {xs ys:List AV} {k:Nat},cloAs n xs=true→cloAs n ys=true→cloAs n (splice xs k ys)=true
 | xs,ys,0,h,g=>by
  have:splice xs 0 ys=ys++xs.drop ys.length:=by cases xs <;> rfl
  rw [this];exact cloAs_app.2 ⟨g,cloAs_drop h⟩
 | [],_,_ + 1,_,_=>rfl
 | x::xs,ys,k + 1,h,g=>by
  rw [cloAs,Bool.and_eq_true] at h
  show cloAs n (x::splice xs k ys)=true
  rw [cloAs,Bool.and_eq_true]
  exact ⟨h.1,cloAs_splice h.2 g⟩
theorem cloAs_setAt {n:Nat} {xs:List AV} {k:Nat} {x:AV} (h:cloAs n xs=true) (g:cloA n x=true):cloAs n (setAt xs k x)=true:=by
 rw [setAt_eq,cloAs_mem]
 intro y hy
 rcases List.mem_or_eq_of_mem_set hy with hy | rfl
 ·exact cloAs_mem.1 h y hy
 ·exact g
theorem cloAs_rep {n k:Nat} {x:AV} (h:cloA n x=true):cloAs n (List.replicate k x)=true:=cloAs_mem.2 fun y hy=>by rw [List.eq_of_mem_replicate hy];exact h
theorem part_c {n:Nat} {ti:TI} {cs:List AV} {off:Nat} {x:AV} (h:cloAs n cs=true) (hx:part ti cs off=some x):cloA n x=true:=by
 unfold part at hx
 simp only [cond_eq_ite] at hx
 split at hx
 ·split at hx
  ·cases hx;exact cloAs_take (cloAs_drop h)
  ·cases hx
 ·exact cloAs_get h hx
theorem chunk_c {n sz:Nat}:∀ {k:Nat} {cs xs:List AV},cloAs n cs=true→chunk sz k cs=some xs→cloAs n xs=true
 | 0,_,_,_,h=>by cases h;rfl
 | k + 1,cs,xs,hc,h=>by
  unfold chunk at h
  simp only [cond_eq_ite] at h
  split at h
  ·rename_i x hx
   split at h
   ·rename_i ys hys
    cases h
    rw [cloAs,Bool.and_eq_true]
    refine ⟨?_,chunk_c (cloAs_drop hc) hys⟩
    split at hx
    ·exact cloAs_mem.1 hc x (List.mem_of_mem_head? hx)
    ·split at hx
     ·cases hx;exact cloAs_take hc
     ·cases hx
   ·cases h
  ·cases h
theorem blkCells_c {n b:Nat} {hp:List Blk} {cs:List AV} (h:cloH n hp=true) (hb:blkCells hp b=some cs):cloAs n cs=true:=by
 have:=blkCells_eq hb
 unfold cloH at h
 exact List.all_eq_true.1 h _ (List.mem_of_getElem? this)
theorem elems_c {n sz:Nat} {hp:List Blk} {x:AV} {xs:List AV} (h:cloH n hp=true) (hx:cloA n x=true) (he:elems hp sz x=some xs):cloAs n xs=true:=by
 unfold elems at he
 simp only [cond_eq_ite] at he
 split at he
 ·cases he;rfl
 ·split at he
  ·cases he
   rw [cloA,Bool.and_eq_true] at hx
   exact hx.2
  ·cases he
 ·split at he
  ·split at he
   ·rename_i hb
    exact chunk_c (cloAs_drop (blkCells_c h hb)) he
   ·cases he
  ·cases he
 ·split at he
  ·cases he
   refine cloAs_mem.2 fun y hy => ?_
   obtain ⟨c,_,rfl⟩:=List.mem_map.1 hy
   rfl
  ·cases he
 ·cases he
theorem mapO_c {α:Type} {f:α→Option AV} {n:Nat}:∀ {xs:List α} {ys:List AV},(∀ x ∈ xs,∀ y,f x=some y→cloA n y=true)→mapO f xs=some ys→cloAs n ys=true
 | [],_,_,h=>by cases h;rfl
 | x::xs,ys,hf,h=>by
  unfold mapO at h
  split at h
  ·rename_i y hy
   split at h
   ·rename_i zs hz
    cases h
    rw [cloAs,Bool.and_eq_true]
    exact ⟨hf x (by simp) y hy,mapO_c (fun z hz=>hf z (by simp [hz])) hz⟩
   ·cases h
  ·cases h
theorem ofConst_c {n:Nat}:∀ (d:Nat) (v:Value) (x:AV),ofConst d v=some x→cloA n x=true
 | 0,_,_,h=>by cases h
 | d + 1,v,x,h=>by
  unfold ofConst at h
  simp only [cond_eq_ite] at h
  split at h
  all_goals first
   | (cases h;done)
   | (cases h;rfl)
   | skip
  ·split at h
   ·rename_i r hr
    split at h
    ·cases h
     exact mapO_c (fun v _ y hy=>ofConst_c d v y hy) hr
    ·cases h
   ·cases h
  ·simp only [Option.map_eq_some_iff] at h
   obtain ⟨r,hr,rfl⟩:=h
   exact mapO_c (fun v _ y hy=>ofConst_c d v y hy) hr
def tvC (n:Nat):TV→Prop
 | .v x=>cloA n x=true
 | .bx cs=>cloAs n cs=true
 | _=>True
theorem tvC_mono {n k:Nat} (hk:n≤k):∀ {x:TV},tvC n x→tvC k x
 | .v x,h=>cloA_mono hk x h
 | .bx cs,h=>cloAs_mono hk cs h
 | .junk,_=>trivial
 | .sk,_=>trivial
 | .lp _ _,_=>trivial
def TsC (n:Nat) (ts:List TV):Prop:=∀ x ∈ ts,tvC n x
structure GoodC (C:Cfg):Prop where
 ty:∀ t ti,C.ty t=some ti→∀ n,cloAs n ti.zero=true
 glob:∀ g v,C.glob g=some v→∀ n,cloA n v=true
 ext:∀ f e,C.ext f=some e→∀ args v n,e args=some v→cloAs n args=true→cloA n v=true
structure OkS (st:St):Prop where
 ts:TsC st.hp.length st.tmps
 hp:cloH st.hp.length st.hp=true
structure OkR (st:St) (r:Res):Prop where
 val:tvC r.hp.length r.val
 ts:TsC r.hp.length r.tmps
 hp:cloH r.hp.length r.hp=true
 le:st.hp.length≤r.hp.length
def CallC (call:CallF):Prop:=∀ f args hp v hp',call f args hp=some (v,hp')→cloAs hp.length args=true→cloH hp.length hp=true→cloA hp'.length v=true∧cloH hp'.length hp'=true∧hp.length≤hp'.length
variable (G:GoodC C)
theorem get_c {n k:Nat} {ts:List TV} {x:TV} (h:TsC n ts) (hx:getAt ts k=some x):tvC n x:=by
 rw [getAt_eq] at hx;exact h x (List.mem_of_getElem? hx)
include G in
theorem opnd_c {n:Nat} {ts:List TV} {x:Operand} {y:TV} (h:TsC n ts) (hx:opnd C ts x=some y):tvC n y:=by
 unfold opnd at hx
 split at hx
 ·split at hx
  ·cases hx;trivial
  ·rename_i hg;cases hx;exact get_c h hg
  ·cases hx;trivial
 ·simp only [Option.map_eq_some_iff] at hx
  obtain ⟨z,hz,rfl⟩:=hx
  exact ofConst_c _ _ _ hz
 ·simp only [Option.map_eq_some_iff] at hx
  obtain ⟨z,hz,rfl⟩:=hx
  show cloA n (.rop z)=true
  rw [cloA];exact G.glob _ _ hz n
 ·cases hx;rfl
include G in
theorem opv_c {n:Nat} {ts:List TV} {x:Operand} {y:AV} (h:TsC n ts) (hx:opv C ts x=some y):cloA n y=true:=by
 unfold opv at hx
 split at hx
 ·rename_i hy;cases hx;exact opnd_c G h hy
 ·cases hx
theorem okR {st:St} (ho:OkS st) {x:TV} {f:Fp} (hx:tvC st.hp.length x):OkR st ⟨x,st.tmps,st.hp,f⟩:=⟨hx,ho.ts,ho.hp,Nat.le_refl _⟩
theorem ofO_c {st:St} (ho:OkS st) {x:Option AV} {r:Res} (hx:∀ y,x=some y→cloA st.hp.length y=true) (h:ofO st x=some r):OkR st r:=by
 simp only [ofO,Option.map_eq_some_iff] at h
 obtain ⟨y,hy,rfl⟩:=h
 exact okR ho (hx y hy)
theorem TsC.mono {n k:Nat} (hk:n≤k) {ts:List TV} (h:TsC n ts):TsC k ts:=fun x hx=>tvC_mono hk (h x hx)
theorem cloH_app {n:Nat} {hp:List Blk} {b:Blk} (h:cloH n hp=true) (hb:cloB n b=true):cloH n (hp++[b])=true:=by
 unfold cloH at *
 rw [List.all_append,h]
 simp [hb]
theorem cloH_setB {n b:Nat} {hp:List Blk} {x:Blk} (h:cloH n hp=true) (hb:cloB n x=true):cloH n (setAt hp b x)=true:=by
 unfold cloH at *
 rw [List.all_eq_true] at *
 intro y hy
 rw [setAt_eq] at hy
 rcases List.mem_or_eq_of_mem_set hy with hy | rfl
 ·exact h y hy
 ·exact hb
theorem okApp {st:St} (ho:OkS st) {hp:List Blk} {x:TV} {b:Blk} {f:Fp} (hl:hp.length=st.hp.length) (hh:cloH st.hp.length hp=true) (hx:tvC (st.hp.length + 1) x) (hb:cloB (st.hp.length + 1) b=true):OkR st ⟨x,st.tmps,hp++[b],f⟩:=by
 have e:(hp++[b]).length=st.hp.length + 1:=by simp [hl]
 refine ⟨by dsimp only;rw [e];exact hx,by dsimp only;rw [e];exact ho.ts.mono (by omega), ?_,by dsimp only;omega⟩
 dsimp only
 rw [e]
 exact cloH_app (cloH_mono (by omega) hh) hb
theorem okSet {st:St} (ho:OkS st) {x:TV} {b:Nat} {y:Blk} {f:Fp} (hx:tvC st.hp.length x) (hb:cloB st.hp.length y=true):OkR st ⟨x,st.tmps,setAt st.hp b y,f⟩:=by
 have e:(setAt st.hp b y).length=st.hp.length:=setAt_length _ _ _
 refine ⟨by dsimp only;rw [e];exact hx,by dsimp only;rw [e];exact ho.ts, ?_,by dsimp only;omega⟩
 dsimp only
 rw [e]
 exact cloH_setB ho.hp hb
theorem newBlk_c {st:St} (ho:OkS st) {cs:List AV} {mk:Nat→AV} {r:Res} (hc:cloAs (st.hp.length + 1) cs=true) (hm:cloA (st.hp.length + 1) (mk st.hp.length)=true) (h:newBlk st cs mk=some r):OkR st r:=by
 simp only [newBlk,Option.some.injEq] at h
 subst h
 exact okApp ho rfl ho.hp hm hc
theorem slot_c {n k:Nat} {ts:List TV} {cs:List AV} (h:TsC n ts) (hx:slotCells ts k=some cs):cloAs n cs=true:=by
 unfold slotCells at hx
 split at hx
 ·rename_i e;cases hx;exact get_c h e
 ·cases hx
theorem asVal_c {n:Nat} {ti:TI} {v x:AV} (h:cloA n v=true) (hx:asVal ti v=some x):cloA n x=true:=by
 unfold asVal at hx
 simp only [cond_eq_ite] at hx
 split at hx
 ·split at hx
  ·split at hx
   ·cases hx;exact h
   ·cases hx
  ·cases hx
 ·split at hx
  ·cases hx
  ·cases hx
  ·cases hx;exact h
theorem loadAt_c {st:St} (ho:OkS st) {t:TypeId} {a:TV} {r:Res} (ha:tvC st.hp.length a) (h:loadAt C st t a=some r):OkR st r:=by
 unfold loadAt at h
 split at h
 ·cases h
 split at h
 ·rename_i v
  refine ofO_c ho (fun y hy=>asVal_c ?_ hy) h
  exact (show cloA _ (.rop v)=true from ha)
 ·split at h
  ·rename_i hb
   simp only [Option.map_eq_some_iff] at h
   obtain ⟨x,hx,rfl⟩:=h
   exact okR ho (part_c (blkCells_c ho.hp hb) hx)
  ·cases h
 ·split at h
  ·rename_i hb
   simp only [Option.map_eq_some_iff] at h
   obtain ⟨x,hx,rfl⟩:=h
   exact okR ho (part_c (slot_c ho.ts hb) hx)
  ·cases h
 ·cases h
theorem TsC.set {n k:Nat} {ts:List TV} {x:TV} (h:TsC n ts) (hx:tvC n x):TsC n (setAt ts k x):=fun y hy=>by
 rw [setAt_eq] at hy
 rcases List.mem_or_eq_of_mem_set hy with hy | rfl
 ·exact h y hy
 ·exact hx
theorem storeAt_c {fl:Nat} {st:St} (ho:OkS st) {t:TypeId} {a:TV} {x:AV} {r:Res} (hx:cloA st.hp.length x=true) (h:storeAt C fl st t a x=some r):OkR st r:=by
 unfold storeAt at h
 simp only [cond_eq_ite] at h
 split at h
 ·cases h
 split at h
 ·cases h
 split at h
 ·split at h
  ·rename_i hb
   split at h
   ·cases h
    exact okSet ho trivial (cloAs_splice (blkCells_c ho.hp hb) (by rw [cloAs_cells];exact hx))
   ·cases h
  ·cases h
 ·split at h
  ·rename_i hb
   split at h
   ·cases h
    exact ⟨trivial,ho.ts.set (cloAs_splice (slot_c ho.ts hb) (by rw [cloAs_cells];exact hx)),ho.hp,Nat.le_refl _⟩
   ·cases h
  ·cases h
 ·cases h
theorem fieldAddr_c {n:Nat} {t:TypeId} {i:Nat} {a x:TV} (ha:tvC n a) (h:fieldAddr C t i a=some x):tvC n x:=by
 unfold fieldAddr at h
 simp only [cond_eq_ite] at h
 split at h
 ·cases h
 split at h
 ·cases h
 split at h
 ·cases h;trivial
 ·cases h;exact ha
 ·rename_i cs
  simp only [Option.map_eq_some_iff] at h
  obtain ⟨y,hy,rfl⟩:=h
  show cloA n (.rop y)=true
  rw [cloA]
  exact part_c (show cloAs n cs=true from ha) hy
 ·cases h
theorem indexAddr_c {n:Nat} {t:TypeId} {i:Int} {a x:TV} (ha:tvC n a) (h:indexAddr C t a i=some x):tvC n x:=by
 unfold indexAddr at h
 simp only [cond_eq_ite] at h
 split at h
 ·cases h
 split at h
 ·split at h
  ·cases h
  split at h
  ·cases h
  split at h
  ·cases h;trivial
  ·cases h;exact ha
  ·rename_i cs
   simp only [Option.map_eq_some_iff] at h
   obtain ⟨y,hy,rfl⟩:=h
   show cloA n (.rop y)=true
   rw [cloA]
   exact part_c (show cloAs n cs=true from ha) hy
  ·cases h
 ·split at h
  ·cases h
  split at h
  ·rename_i sz own xs
   split at h
   ·simp only [Option.map_eq_some_iff] at h
    obtain ⟨y,hy,rfl⟩:=h
    show cloA n (.rop y)=true
    rw [cloA]
    have ha:cloA n (.lit sz own xs)=true:=ha
    rw [cloA,Bool.and_eq_true] at ha
    exact cloAs_get ha.2 hy
   ·cases h
  ·split at h
   ·cases h;exact ha
   ·cases h
  ·cases h
 ·cases h
theorem indexE_c {n:Nat} {t:TypeId} {i:Int} {a x:AV} (ha:cloA n a=true) (h:indexE C t a i=some x):cloA n x=true:=by
 unfold indexE at h
 simp only [cond_eq_ite] at h
 split at h
 ·cases h
 split at h
 ·split at h
  ·cases h
  split at h
  ·cases h
  ·rename_i cs _ _ _
   exact part_c (show cloAs n _=true from ha) h
 ·simp only [Option.map_eq_some_iff] at h
  obtain ⟨y,hy,rfl⟩:=h
  rfl
 ·cases h
theorem sliceE_c {st:St} {t:TypeId} {a:TV} {lo hi mx:Option AV} {x:AV} (ha:tvC st.hp.length a) (h:sliceE C st t a lo hi mx=some x):cloA st.hp.length x=true:=by
 have key:∀ {n sz:Nat} {own own':Own} {xs ys:List AV},cloA n (.lit sz own xs)=true→(∀ y ∈ ys,y ∈ xs)→(ownC n own=true→ownC n own'=true)→cloA n (.lit sz own' ys)=true:=fun {n sz own own' xs ys} h hs ho=>by
  rw [cloA,Bool.and_eq_true] at *
  exact ⟨ho h.1,cloAs_sub h.2 hs⟩
 have sub:∀ {l h:Nat} {xs:List AV},∀ y ∈ (xs.drop l).take h,y ∈ xs:=fun y hy=>List.mem_of_mem_drop (List.mem_of_mem_take hy)
 unfold sliceE at h
 simp only [cond_eq_ite] at h
 split at h
 ·repeat' (first | (cases h;done) | (cases h;rfl) | split at h)
 ·split at h
  ·cases h
  split at h
  ·repeat' (first | (cases h;done) | (cases h;rfl) | split at h)
  ·rename_i own xs
   split at h
   ·split at h
    ·cases h
    split at h
    ·split at h
     ·split at h
      ·cases h
      ·cases h
       refine key ha sub fun _ => ?_
       split <;> rfl
     ·cases h
    ·split at h
     ·cases h
      refine key ha sub fun _ => ?_
      split <;> rfl
     ·cases h
      refine key ha sub fun h => ?_
      split
      ·exact h
      ·rfl
     ·cases h
      exact key ha sub fun h=>h
   ·cases h
  ·split at h
   ·split at h
    ·cases h
    split at h
    ·split at h
     ·split at h
      ·cases h
      ·split at h
       ·cases h;rfl
       ·cases h
     ·cases h
    ·split at h
     ·cases h;rfl
     ·cases h;exact ha
   ·cases h
  ·cases h
 ·split at h
  ·cases h
  split at h
  ·split at h
   ·split at h
    ·cases h
    ·cases h;exact ha
   ·cases h
  ·cases h
 ·cases h
theorem fill_c {n:Nat} {ti:TI}:∀ {ps:List (Nat × AV)} {cs ys:List AV},cloAs n cs=true→(∀ p ∈ ps,cloA n p.2=true)→fill ti C cs ps=some ys→cloAs n ys=true
 | [],_,_,hc,_,h=>by cases h;exact hc
 | (i,x)::ps,cs,ys,hc,hp,h=>by
  unfold fill at h
  simp only [cond_eq_ite] at h
  split at h
  ·split at h
   ·exact fill_c (cloAs_splice hc (by rw [cloAs_cells];exact hp (i,x) (by simp))) (fun p hq=>hp p (by simp [hq])) h
   ·cases h
  ·cases h
include G in
theorem valParts_c {n:Nat} {ts:List TV} (h:TsC n ts):∀ {ps:List (Nat × Operand)} {r:List (Nat × AV)},valParts C ts ps=some r→∀ p ∈ r,cloA n p.2=true
 | [],_,e=>by cases e;intro p hp;cases hp
 | (i,x)::ps,r,e=>by
  unfold valParts at e
  split at e
  ·rename_i a ha
   split at e
   ·rename_i q hq
    cases e
    intro p hp
    rcases List.mem_cons.1 hp with rfl | hp
    ·exact opv_c G h ha
    ·exact valParts_c h hq p hp
   ·cases e
  ·cases e
theorem setParts_c {n sz:Nat}:∀ {ps:List (Nat × AV)} {xs ys:List AV},cloAs n xs=true→(∀ p ∈ ps,cloA n p.2=true)→setParts sz xs ps=some ys→cloAs n ys=true
 | [],_,_,hc,_,h=>by cases h;exact hc
 | (i,x)::ps,xs,ys,hc,hp,h=>by
  unfold setParts at h
  simp only [cond_eq_ite] at h
  split at h
  ·exact setParts_c (cloAs_setAt hc (hp (i,x) (by simp))) (fun p hq=>hp p (by simp [hq])) h
  ·cases h
theorem zeros_c {n:Nat} {ti:TI} (h:cloAs n ti.zero=true):∀ k,cloAs n (zeros ti k)=true
 | 0=>rfl
 | k + 1=>cloAs_app.2 ⟨h,zeros_c h k⟩
include G in
theorem appElems_c {n:Nat} {hp:List Blk} {e:TypeId} {ei:TI} {t2:TypeId} {x:AV} {xs:List AV} (hh:cloH n hp=true) (hei:C.ty e=some ei) (hx:cloA n x=true) (h:appElems C hp ei t2 x=some xs):cloAs n xs=true:=by
 unfold appElems at h
 simp only [cond_eq_ite] at h
 split at h
 ·split at h
  ·rename_i hz
   split at h
   ·cases h
    exact cloAs_rep (part_c (G.ty _ _ hei n) hz)
   ·cases h
  ·cases h
 ·exact elems_c hh hx h
 ·exact elems_c hh hx h
 ·cases h
include G in
theorem appendE_c {fl:Nat} {arrM:Bool} {st:St} (ho:OkS st) {t t2:TypeId} {s x:AV} {r:Res} (hs:cloA st.hp.length s=true) (hx:cloA st.hp.length x=true) (h:appendE C fl arrM st t t2 s x=some r):OkR st r:=by
 unfold appendE at h
 dsimp only at h
 simp only [cond_eq_ite] at h
 split at h
 case h_2=>cases h
 split at h
 ·cases h
 rename_i hei
 split at h
 case h_2=>cases h
 rename_i xs ys hxs hys
 have hxc:=appElems_c G ho.hp hei hx hxs
 have hyc:=elems_c ho.hp hs hys
 have all:cloAs st.hp.length (ys++xs)=true:=cloAs_app.2 ⟨hyc,hxc⟩
 have all1:cloAs (st.hp.length + 1) (ys++xs)=true:=cloAs_mono (by omega) _ all
 have fresh:∀ {f:Fp} {r:Res} {ei:TI} {n k:Nat},(if arrM=true then some (Res.mk (.v (.arr ei.size st.hp.length 0 (n + k))) st.tmps (st.hp++[.cells (flat (ys++xs))]) f) else some ⟨.v (.lit ei.size (.fam st.hp.length 0) (ys++xs)),st.tmps,st.hp++[.fam (n + k)],f⟩)=some r→OkR st r:=fun {f r ei n k} h=>by
  split at h
  ·cases h
   exact okApp ho rfl ho.hp (by show cloA _ _=true;simp [cloA]) (cloAs_flat all1)
  ·cases h
   refine okApp ho rfl ho.hp (by show cloA _ _=true;rw [cloA,Bool.and_eq_true];exact ⟨by simp [ownC],all1⟩) rfl
 split at h
 ·cases h
 split at h
 ·cases h
  exact okR ho hs
 split at h
 ·exact fresh h
 ·exact fresh h
 ·split at h
  ·split at h
   ·cases h
    refine okSet ho (by show cloA _ _=true;rw [cloA,Bool.and_eq_true] at *;exact ⟨hs.1,all⟩) rfl
   ·cases h
  ·cases h
 ·split at h
  ·rename_i hb
   split at h
   ·cases h
   split at h
   ·cases h
    exact okSet ho (by simpa only [tvC,cloA] using hs) (cloAs_splice (blkCells_c ho.hp hb) (cloAs_flat hxc))
   ·cases h
    exact okApp ho (setAt_length _ _ _) (cloH_setB ho.hp rfl) (by show cloA _ _=true;simp [cloA]) (cloAs_flat all1)
  ·cases h
 ·cases h
include G in
theorem builtinE_c {fl:Nat} {arrM:Bool} {st:St} (ho:OkS st) {b:Builtin} {ts:List TypeId} {args:List AV} {r:Res} (ha:cloAs st.hp.length args=true) (h:builtinE C fl arrM st b ts args=some r):OkR st r:=by
 unfold builtinE at h
 split at h
 ·exact ofO_c ho (fun y hy=>by simp only [Option.map_eq_some_iff] at hy;obtain ⟨_,_,rfl⟩:=hy;rfl) h
 ·exact ofO_c ho (fun y hy=>by simp only [Option.map_eq_some_iff] at hy;obtain ⟨_,_,rfl⟩:=hy;rfl) h
 ·simp only [cloAs,Bool.and_eq_true] at ha
  exact appendE_c G ho ha.1 ha.2.1 h
 ·rename_i d x
  simp only [cloAs,Bool.and_eq_true] at ha
  unfold copyE at h
  simp only [cond_eq_ite] at h
  split at h
  case h_2=>cases h
  split at h
  ·cases h
  split at h
  case h_2=>cases h
  rename_i xs hxs
  split at h
  case h_2=>cases h
  split at h
  case h_2=>cases h
  rename_i hb
  split at h
  ·cases h
   exact okSet ho rfl (cloAs_splice (blkCells_c ho.hp hb) (cloAs_flat (elems_c ho.hp ha.2.1 hxs)))
  ·cases h
 ·unfold clearE at h
  simp only [cond_eq_ite] at h
  split at h
  case h_2=>cases h
  split at h
  ·cases h
  rename_i hei
  split at h
  ·cases h;exact okR ho rfl
  ·cases h;exact okR ho rfl
  ·split at h
   case h_2=>cases h
   rename_i hb
   split at h
   ·cases h
    exact okSet ho rfl (cloAs_splice (blkCells_c ho.hp hb) (zeros_c (G.ty _ _ hei _) _))
   ·cases h
  ·cases h
 ·refine ofO_c ho (fun y hy => ?_) h
  unfold minE at hy
  simp only [cond_eq_ite] at hy
  repeat' (first | (cases hy;done) | (cases hy;rfl) | split at hy)
 ·refine ofO_c ho (fun y hy => ?_) h
  unfold minE at hy
  simp only [cond_eq_ite] at hy
  repeat' (first | (cases hy;done) | (cases hy;rfl) | split at hy)
 ·cases h
theorem bytes_c {n:Nat} {s:List UInt8}:cloAs n (s.map fun c => .int .u8 c.toNat)=true:=cloAs_mem.2 fun y hy=>by
 obtain ⟨c,_,rfl⟩:=List.mem_map.1 hy;rfl
theorem convE_c {arrM:Bool} {st:St} (ho:OkS st) {s d:TypeId} {x:AV} {r:Res} (h:convE C arrM st s d x=some r):OkR st r:=by
 unfold convE at h
 split at h
 ·exact ofO_c ho (fun y hy=>by cases hy;rfl) h
 ·exact ofO_c ho (fun y hy=>by cases hy;rfl) h
 ·split at h
  ·cases arrM with
   | true=>rw [cond_true rfl] at h;exact newBlk_c ho bytes_c (by simp [cloA]) h
   | false =>
    rw [cond_false rfl] at h
    refine ofO_c ho (fun y hy => ?_) h
    cases hy
    rw [cloA,Bool.and_eq_true]
    exact ⟨rfl,bytes_c⟩
  ·cases h
 ·simp only [cond_eq_ite] at h
  split at h
  ·cases h
  split at h
  ·split at h
   ·simp only [Option.map_eq_some_iff] at h
    obtain ⟨l,hl,rfl⟩:=h
    exact okR ho rfl
   ·cases h
  ·cases h
 ·cases h
theorem arith_c {op:BinOp} {k:IntKind} {a b:Int} {n:Nat} {x:AV} (h:arith op k a b=some x):cloA n x=true:=by
 unfold arith at h
 simp only [cond_eq_ite] at h
 split at h
 all_goals first
  | (cases h;done)
  | (cases h;rfl)
  | (split at h;cases h;cases h;rfl)
theorem binE_c {op:BinOp} {t:TypeId} {cst:Bool} {x y z:AV} {n:Nat} (h:binE C op t cst x y=some z):cloA n z=true:=by
 unfold binE at h
 simp only [cond_eq_ite] at h
 split at h
 ·split at h
  ·unfold shiftE at h
   simp only [cond_eq_ite] at h
   repeat' (first | (cases h;done) | (cases h;rfl) | split at h)
  ·unfold shiftE at h
   simp only [cond_eq_ite] at h
   repeat' (first | (cases h;done) | (cases h;rfl) | split at h)
  ·split at h
   ·exact arith_c h
   ·cases h
 ·unfold strOp at h
  simp only [cond_eq_ite] at h
  repeat' (first | (cases h;done) | (cases h;rfl) | split at h)
 ·split at h
  ·split at h
   ·simp only [Option.map_eq_some_iff] at h
    obtain ⟨_,_,rfl⟩:=h;rfl
   ·cases h
  ·split at h
   ·simp only [Option.map_eq_some_iff] at h
    obtain ⟨_,_,rfl⟩:=h;rfl
   ·cases h
  ·cases h
theorem unE_c {op:UnOp} {x z:AV} {n:Nat} (h:unE op x=some z):cloA n z=true:=by
 unfold unE at h
 split at h
 ·cases h;rfl
 ·exact arith_c h
 ·cases h;rfl
 ·cases h
theorem callE_c {call:CallF} (hcall:CallC call) {st:St} (ho:OkS st) {f:FuncId} {args:List AV} {r:Res} (ha:cloAs st.hp.length args=true) (h:callE C call st f args=some r):OkR st r:=by
 unfold callE at h
 split at h
 ·rename_i v hp e
  cases h
  obtain ⟨h1,h2,h3⟩:=hcall _ _ _ _ _ e ha ho.hp
  exact ⟨h1,ho.ts.mono h3,h2,h3⟩
 ·cases h
include G in
theorem evOp_c {call:CallF} (hcall:CallC call) {fl:Nat} {me:FuncId} {o:Oper} {st:St} (ho:OkS st) {r:Res} (h:evOp C call fl me o st=some r):OkR st r:=by
 have up:∀ {v:AV},cloA st.hp.length v=true→cloAs (st.hp.length + 1) v.cells=true:=fun {v} hv=>by rw [cloAs_cells];exact cloA_mono (by omega) v hv
 have pr:∀ {x:TV} {r:Res},tvC st.hp.length x→pureR st x=some r→OkR st r:=fun {x r} hx h=>by have:=pureR_eq h;subst this;exact okR ho hx
 unfold evOp at h
 split at h
 ·simp only [Option.bind_eq_some_iff] at h
  obtain ⟨y,hy,h⟩:=h
  exact pr (opnd_c G ho.ts hy) h
 ·simp only [Option.bind_eq_some_iff] at h
  obtain ⟨y,hy,h⟩:=h
  exact pr (opnd_c G ho.ts hy) h
 ·split at h
  ·simp only [Option.bind_eq_some_iff] at h
   obtain ⟨y,hy,h⟩:=h
   exact pr (opnd_c G ho.ts hy) h
  ·cases h
 ·split at h
  ·cases h
  rename_i hti
  simp only [cond_eq_ite] at h
  split at h
  ·cases h
  split at h
  ·cases h
  split at h
  ·cases h
   exact okR ho (G.ty _ _ hti _)
  ·exact newBlk_c ho (G.ty _ _ hti _) (by simp [cloA]) h
 ·split at h
  case h_2=>cases h
  rename_i a d ha hd
  simp only [cond_eq_ite] at h
  split at h
  ·cases h
  split at h
  ·cases h
   exact okR ho (by show cloAs _ _=true;rw [cloAs_cells];exact opv_c G ho.ts ha)
  ·exact newBlk_c ho (up (opv_c G ho.ts ha)) (by simp [cloA]) h
 ·split at h
  ·rename_i ti vs hti hvs
   simp only [cond_eq_ite] at h
   split at h
   ·refine ofO_c ho (fun y hy => ?_) h
    simp only [Option.map_eq_some_iff] at hy
    obtain ⟨cs,hcs,rfl⟩:=hy
    exact fill_c (G.ty _ _ hti _) (valParts_c G ho.ts hvs) hcs
   ·cases h
  ·cases h
 ·split at h
  ·rename_i hvs
   split at h
   ·cases h
   rename_i hei
   split at h
   ·cases h
   rename_i z hz
   split at h
   ·cases h
   rename_i xs hxs
   have hxc:cloAs st.hp.length xs=true:=setParts_c (cloAs_rep (part_c (G.ty _ _ hei _) hz)) (valParts_c G ho.ts hvs) hxs
   simp only [cond_eq_ite] at h
   split at h
   ·cases h
   split at h
   ·exact newBlk_c ho (cloAs_flat (cloAs_mono (by omega) _ hxc)) (by simp [cloA]) h
   ·refine ofO_c ho (fun y hy => ?_) h
    cases hy
    rw [cloA,Bool.and_eq_true]
    exact ⟨rfl,hxc⟩
  ·cases h
 ·simp only [Option.bind_eq_some_iff] at h
  obtain ⟨y,hy,h⟩:=h
  exact loadAt_c ho (opnd_c G ho.ts hy) h
 ·split at h
  ·rename_i hx
   exact storeAt_c ho (opv_c G ho.ts hx) h
  ·cases h
 ·split at h
  ·rename_i s o _;exact pr (x := .lp s o) trivial h
  ·rename_i hx;exact pr (opnd_c G ho.ts hx) h
  ·rename_i hx;exact pr (opnd_c G ho.ts hx) h
  ·rename_i hx;exact pr (opnd_c G ho.ts hx) h
  ·cases h
 ·split at h
  ·exact ofO_c ho (fun y hy=>binE_c hy) h
  ·cases h
 ·split at h
  ·exact ofO_c ho (fun y hy=>unE_c hy) h
  ·cases h
 ·split at h
  ·exact convE_c ho h
  ·cases h
 ·split at h
  ·rename_i hx
   split at h
   ·cases h
   ·refine ofO_c ho (fun y hy => ?_) h
    cases hy
    rw [cloA];exact opv_c G ho.ts hx
  ·cases h
 ·split at h
  ·rename_i hx hy
   refine ofO_c ho (fun y hy' => ?_) h
   cases hy'
   rw [cloA,Bool.and_eq_true]
   exact ⟨mapO_c (fun z _ y hz=>opv_c G ho.ts hz) hx,mapO_c (fun z _ y hz=>opv_c G ho.ts hz) hy⟩
  ·cases h
 ·split at h
  ·split at h
   ·cases h
   rename_i hei
   simp only [cond_eq_ite] at h
   split at h
   ·exact newBlk_c ho (zeros_c (G.ty _ _ hei _) _) (by simp [cloA]) h
   ·cases h
  ·cases h
 ·split at h
  ·rename_i hx _ _ _
   simp only [Option.map_eq_some_iff] at h
   obtain ⟨y,hy,rfl⟩:=h
   exact okR ho (sliceE_c (opnd_c G ho.ts hx) hy)
  ·cases h
 ·split at h
  ·rename_i hx
   simp only [Option.bind_eq_some_iff] at h
   obtain ⟨y,hy,h⟩:=h
   exact pr (fieldAddr_c (opnd_c G ho.ts hx) hy) h
  ·cases h
 ·split at h
  ·rename_i hx
   split at h
   ·refine ofO_c ho (fun y hy => ?_) h
    have:=opv_c G ho.ts hx
    rw [cloA] at this
    exact part_c this hy
   ·cases h
  ·cases h
 ·split at h
  ·rename_i hx _
   simp only [Option.bind_eq_some_iff] at h
   obtain ⟨y,hy,h⟩:=h
   exact pr (indexAddr_c (opnd_c G ho.ts hx) hy) h
  ·cases h
 ·split at h
  ·rename_i hx _
   exact ofO_c ho (fun y hy=>indexE_c (opv_c G ho.ts hx) hy) h
  ·cases h
 ·split at h
  ·rename_i hx
   refine ofO_c ho (fun y hy => ?_) h
   have:=opv_c G ho.ts hx
   rw [cloA] at this
   exact cloAs_get this hy
  ·cases h
 ·split at h
  ·cases h
  rename_i args hargs
  have hac:cloAs st.hp.length args=true:=mapO_c (fun z _ y hz=>opv_c G ho.ts hz) hargs
  split at h
  ·exact builtinE_c G ho hac h
  ·split at h
   ·rename_i hf
    have hfc:=opv_c G ho.ts hf
    rw [cloA,Bool.and_eq_true] at hfc
    exact callE_c hcall ho (cloAs_app.2 ⟨cloAs_app.2 ⟨hfc.1,hac⟩,hfc.2⟩) h
   ·cases h
  ·cases h
 ·cases h
theorem put_c {n:Nat} {ts ts':List TV} {d:Option Tmp} {x:TV} (h:TsC n ts) (hx:tvC n x) (hp:put ts d x=some ts'):TsC n ts':=by
 unfold put at hp
 split at hp
 ·split at hp
  ·cases hp
  ·cases hp;exact h.set hx
  ·cases hp
 ·cases hp;exact h
def OkT (st st':St):Prop:=OkS st'∧st.hp.length≤st'.hp.length
include G in
theorem evOne_c {call:CallF} (hcall:CallC call) {fl:Nat} {me:FuncId} {ops:List Oper} {o:Oper} {st:St} (ho:OkS st) {r:St × Fp} (h:evOne C call fl me ops o st=some r):OkT st r.1:=by
 unfold evOne at h
 split at h
 ·split at h
  ·rename_i q hq
   obtain ⟨h1,h2,h3,h4⟩:=evOp_c G hcall ho hq
   split at h
   ·rename_i t ht
    cases h
    exact ⟨⟨put_c h2 h1 ht,h3⟩,h4⟩
   ·cases h
  ·cases h
 ·split at h
  ·rename_i t ht
   cases h
   exact ⟨⟨put_c (x := .sk) ho.ts trivial ht,ho.hp⟩,Nat.le_refl _⟩
  ·cases h
 ·cases h
include G in
theorem runOps_c {call:CallF} (hcall:CallC call) {fl:Nat} {me:FuncId} {ops:List Oper}:∀ (l:List Oper) {st:St},OkS st→∀ {r:St × List Fp},runOps C call fl me ops l st=some r→OkT st r.1
 | [],st,ho,r,h=>by cases h;exact ⟨ho,Nat.le_refl _⟩
 | o::l,st,ho,r,h=>by
  unfold runOps at h
  split at h
  ·rename_i st1 f h1
   have a:=evOne_c G hcall ho h1
   split at h
   ·rename_i st' fps h2
    cases h
    have b:=runOps_c hcall l a.1 h2
    exact ⟨b.1,Nat.le_trans a.2 b.2⟩
   ·cases h
  ·cases h
theorem cleanT_c {n:Nat}:∀ {ts:List TV} (m:Nat),TsC n ts→TsC n (cleanT ts m)
 | [],_,h=>h
 | x::ts,m,h=>by
  intro y hy
  unfold cleanT at hy
  rcases List.mem_cons.1 hy with rfl | hy
  ·simp only [cond_eq_ite]
   split
   ·split
    ·trivial
    ·exact h x (by simp)
   ·trivial
  ·exact cleanT_c _ (fun z hz=>h z (by simp [hz])) y hy
theorem clean_c {m:Option Nat} {st:St} (h:OkS st):OkS (cleanSt m st):=by
 unfold cleanSt
 split
 ·exact h
 ·exact ⟨cleanT_c _ h.ts,h.hp⟩
theorem clean_hp {m:Option Nat} {st:St}:(cleanSt m st).hp=st.hp:=by unfold cleanSt;split <;> rfl
theorem evLoop_c {b:St→Option (Ex × St)} {m:Option Nat} (hb:∀ {st:St} {e:Ex} {st':St},OkS st→b st=some (e,st')→OkT st st'):∀ (k:Nat) {st st':St} {e:Ex},OkS st→evLoop b (cleanSt m) k st=some (e,st')→OkT st st'
 | 0,_,_,_,_,h=>by cases h
 | k + 1,st,st',e,ho,h=>by
  unfold evLoop at h
  split at h
  ·rename_i st1 h1
   have a:=hb (clean_c ho) h1
   have c:=evLoop_c hb k a.1 h
   refine ⟨c.1,Nat.le_trans ?_ c.2⟩
   have:=a.2
   rwa [clean_hp] at this
  ·have a:=hb (clean_c ho) h
   have:=a.2
   rw [clean_hp] at this
   exact ⟨a.1,this⟩
include G in
theorem run_c {call:CallF} (hcall:CallC call) {fl:Nat} {me:FuncId} {k:Nat}:∀ (c:Code) {st st':St} {e:Ex},OkS st→run C call fl me k c st=some (e,st')→OkT st st'
 | .skip,st,st',e,ho,h=>by simp only [run,Option.some.injEq,Prod.mk.injEq] at h;rw [← h.2];exact ⟨ho,Nat.le_refl _⟩
 | .exit id,st,st',e,ho,h=>by simp only [run,Option.some.injEq,Prod.mk.injEq] at h;rw [← h.2];exact ⟨ho,Nat.le_refl _⟩
 | .ret,st,st',e,ho,h=>by simp only [run,Option.some.injEq,Prod.mk.injEq] at h;rw [← h.2];exact ⟨ho,Nat.le_refl _⟩
 | .region id ops draw,st,st',e,ho,h=>by
  simp only [run,cond_eq_ite] at h
  split at h
  ·rename_i h1
   split at h
   ·cases h
    exact runOps_c G hcall _ ho h1
   ·cases h
  ·cases h
 | .seq x y,st,st',e,ho,h=>by
  simp only [run] at h
  split at h
  ·rename_i st1 h1
   have a:=run_c hcall x ho h1
   have b:=run_c hcall y a.1 h
   exact ⟨b.1,Nat.le_trans a.2 b.2⟩
  ·exact run_c hcall x ho h
 | .cond t x y,st,st',e,ho,h=>by
  simp only [run] at h
  split at h
  ·rename_i b hb
   cases b
   ·exact run_c hcall y ho h
   ·exact run_c hcall x ho h
  ·cases h
 | .block id x,st,st',e,ho,h=>by
  simp only [run] at h
  split at h
  ·rename_i j st1 h1
   have a:=run_c hcall x ho h1
   simp only [cond_eq_ite] at h
   split at h <;> (cases h;exact a)
  ·exact run_c hcall x ho h
 | .loop x,st,st',e,ho,h=>by
  simp only [run] at h
  split at h
  ·rename_i q st1 h1
   cases h
   have a:=evLoop_c (fun ho h=>run_c hcall x ho h) _ ho h1
   exact ⟨clean_c a.1,by rw [clean_hp];exact a.2⟩
  ·cases h
 | .rangeFunc ..,st,st',e,_,h=>by simp [run] at h
 | .scope ..,st,st',e,_,h=>by simp [run] at h
 | .label ..,st,st',e,_,h=>by simp [run] at h
include G in
theorem results_c {st:St} (ho:OkS st):∀ {rv:List ResultVar} {rs:List AV},resultsE C st rv=some rs→cloAs st.hp.length rs=true
 | [],rs,h=>by cases h;rfl
 | .tmp t::rv,rs,h=>by
  simp only [resultsE] at h
  split at h
  ·rename_i x hx
   split at h
   ·rename_i xs hxs
    cases h
    rw [cloAs,Bool.and_eq_true]
    exact ⟨get_c ho.ts hx,results_c ho hxs⟩
   ·cases h
  ·cases h
 | .cell a t::rv,rs,h=>by
  simp only [resultsE] at h
  split at h
  ·rename_i tv htv
   split at h
   ·rename_i x t' hp' fp' hl
    split at h
    ·rename_i xs hxs
     cases h
     rw [cloAs,Bool.and_eq_true]
     have a:=loadAt_c ho (opnd_c G ho.ts htv) hl
     refine ⟨?_,results_c ho hxs⟩
     have hh:hp'=st.hp:=by
      unfold loadAt at hl
      simp only [ofO] at hl
      repeat' (first | (cases hl;done) | (cases hl;rfl) | (simp only [Option.map_eq_some_iff] at hl;obtain ⟨_,_,hl⟩:=hl;cases hl;rfl) | split at hl)
     have:=a.val
     rw [hh] at this
     exact this
    ·cases h
   ·cases h
  ·cases h
theorem one_c {n:Nat} {rs:List AV} (h:cloAs n rs=true):cloA n (one rs)=true:=by
 match rs with
 | []=>rfl
 | [x]=>simpa [cloAs,one] using h
 | x::y::rs=>exact h
theorem shut_c {n:Nat} {hp:List Blk}:∀ (d:Nat) (v w:AV),shutV hp n d v=some w→cloA n w=true
 | 0,_,_,h=>by cases h
 | d + 1,v,w,h=>by
  have ih:=shut_c (n:=n) (hp:=hp) d
  have al:∀ {xs ys:List AV},mapO (shutV hp n d) xs=some ys→cloAs n ys=true:=fun hx=>mapO_c (fun x _ y hy=>ih x y hy) hx
  unfold shutV at h
  simp only [cond_eq_ite] at h
  split at h
  ·split at h
   ·rename_i hb
    cases h
    rw [cloA];exact hb
   ·cases h
  ·simp only [Option.map_eq_some_iff] at h
   obtain ⟨y,hy,rfl⟩:=h
   rw [cloA];exact ih _ _ hy
  ·split at h
   ·rename_i hx
    cases h
    rw [cloA,Bool.and_eq_true]
    refine ⟨?_,al hx⟩
    split
    ·split
     ·assumption
     ·rfl
    ·rename_i hne
     unfold ownC
     split
     ·exact (hne _ _ rfl).elim
     ·rfl
   ·cases h
  ·split at h
   ·rename_i hb
    cases h
    rw [cloA];exact hb
   ·split at h
    ·simp only [Option.map_eq_some_iff] at h
     obtain ⟨y,hy,rfl⟩:=h
     rw [cloA,Bool.and_eq_true]
     exact ⟨rfl,al hy⟩
    ·cases h
  ·split at h
   ·rename_i hx hy
    cases h
    rw [cloA,Bool.and_eq_true]
    exact ⟨al hx,al hy⟩
   ·cases h
  ·simp only [Option.map_eq_some_iff] at h
   obtain ⟨y,hy,rfl⟩:=h
   rw [cloA];exact ih _ _ hy
  ·simp only [Option.map_eq_some_iff] at h
   obtain ⟨y,hy,rfl⟩:=h
   exact al hy
  ·simp only [Option.map_eq_some_iff] at h
   obtain ⟨y,hy,rfl⟩:=h
   exact al hy
  ·cases h
   cases v with
   | bool | int | str | nilP | nilS | nilF | nilI | nilM=>rfl
   | ptr b o=>rename_i h1 _ _ _ _ _ _ _;exact absurd rfl (h1 _ _)
   | arr sz b off len=>rename_i _ _ _ h1 _ _ _ _;exact (h1 _ _ _ _ rfl).elim
   | _=>simp_all
include G in
theorem evCall_c:∀ (k fl:Nat),CallC (evCall C k fl)
 | 0,_=>fun f args hp v hp' h _ _=>by cases h
 | k + 1,fl=>fun f args hp v hp' h ha hh=>by
  unfold evCall at h
  split at h
  ·rename_i e he
   simp only [Option.map_eq_some_iff] at h
   obtain ⟨v',hv,h⟩:=h
   cases h
   exact ⟨G.ext _ _ he _ _ _ hv ha,hh,Nat.le_refl _⟩
  ·split at h
   ·cases h
   ·rename_i fi hfi
    dsimp only at h
    split at h
    ·cases h
    ·rename_i e st' hne hrun
     have hts:TsC hp.length (args.map TV.v++List.replicate (fi.ntmps - args.length) TV.sk):=fun x hx=>by
      rcases List.mem_append.1 hx with hx | hx
      ·obtain ⟨y,hy,rfl⟩:=List.mem_map.1 hx
       exact cloAs_mem.1 ha y hy
      ·rw [List.eq_of_mem_replicate hx];trivial
     have a:=run_c G (evCall_c k _) _ (st:=⟨_,hp⟩) ⟨hts,hh⟩ hrun
     split at h
     ·cases h
     ·rename_i rs hrs
      have hr:=one_c (results_c G a.1 hrs)
      split at h
      ·split at h
       ·rename_i w hw
        cases h
        exact ⟨shut_c _ _ _ hw,hh,Nat.le_refl _⟩
       ·cases h
      ·simp only [cond_eq_ite] at h
       split at h
       ·cases h
       ·rename_i hcl
        split at h
        ·rename_i w hw
         cases h
         have hl:(st'.hp.take hp.length).length=hp.length:=by
          have:hp.length≤st'.hp.length:=a.2
          simp;omega
         rw [hl]
         exact ⟨shut_c _ _ _ hw,by simpa using hcl,Nat.le_refl _⟩
        ·cases h
      ·cases h
       exact ⟨hr,a.1.hp,a.2⟩
      ·cases h
       exact ⟨hr,a.1.hp,a.2⟩
    ·cases h
include G in
theorem evI_c {fl:Nat} {f:FuncId} {args:List AV} {hp hp':List Blk} {v:AV} (h:evI C fl f args hp=some (v,hp')) (ha:cloAs hp.length args=true) (hh:cloH hp.length hp=true):cloA hp'.length v=true∧cloH hp'.length hp'=true∧hp.length≤hp'.length:=by
 unfold evI at h
 split at h
 ·exact evCall_c G _ _ _ _ _ _ _ h ha hh
 ·cases h
end
section
variable {P:Program} {C:Cfg}
def ExtC (e:List AV→Option AV):Prop:=∀ args v n,e args=some v→cloAs n args=true→cloA n v=true
theorem ix_c:ExtC extIx:=fun args v n h _=>by
 unfold extIx at h
 simp only [cond_eq_ite] at h
 repeat' (first | (cases h;done) | (cases h;rfl) | split at h)
theorem join_c:ExtC extJoin:=fun args v n h _=>by
 unfold extJoin at h
 simp only [cond_eq_ite] at h
 repeat' (first | (cases h;done) | (cases h;rfl) | split at h)
theorem fmt_c:ExtC extFmt:=fun args v n h _=>by
 unfold extFmt at h
 simp only [cond_eq_ite] at h
 repeat' (first | (cases h;done) | (cases h;rfl) | split at h)
theorem pi_c {T:TypeId} {eS eR:AV} (hS:∀ n,cloA n eS=true) (hR:∀ n,cloA n eR=true):ExtC (extPI T eS eR):=fun args v n h _=>by
 unfold extPI at h
 simp only [cond_eq_ite] at h
 repeat' (first | (cases h;done) | split at h)
 all_goals (cases h;simp [cloA,cloAs,hS,hR])
theorem tab_c {k:IntKind} {zs:List Int} {n:Nat}:cloA n (tabAV k zs)=true:=by
 unfold tabAV
 rw [cloA,cloAs_mem]
 intro x hx
 obtain ⟨z,_,rfl⟩:=List.mem_map.1 hx
 rfl
theorem ty_c {t:TypeId} {ti:TI} (h:TyOK P t ti) (n:Nat):cloAs n ti.zero=true:=by
 obtain ⟨i,d,z,_,_,_,_,_,_,hzs,_⟩:=h
 exact mapO_c (fun v _ y hy=>ofConst_c _ v y hy) hzs
theorem good_of (hT:TysOK P C) (hg:∀ g v,C.glob g=some v→∀ n,cloA n v=true) (he:∀ f e,C.ext f=some e→ExtC e):GoodC C:=⟨fun t ti h=>ty_c (hT t ti h),hg,he⟩
theorem evI_fl {fl fl':Nat} {f:FuncId} {a:List AV} {h:List Blk} (hk:C.kind f = .pure∨C.kind f = .new) {r:AV × List Blk} (e:evI C fl f a h=some r):evI C fl' f a h=some r:=by
 have key:∀ k,evCall C k fl f a h=evCall C k fl' f a h:=fun k=>by
  cases k with
  | zero=>rfl
  | succ k =>
   unfold evCall
   rcases hk with hk | hk <;> simp only [hk]
 unfold evI at e
 split at e
 ·rename_i H
  rw [key] at e
  exact evI_of e
 ·cases e
end
section
abbrev Jn (n:Nat):List TV:=List.replicate n TV.junk
variable {C:Cfg}
abbrev bytesV (s:List UInt8):List AV:=s.map fun c=>AV.int .u8 (c.toNat:Int)
def convT (C:Cfg) (src dst:TypeId):Bool:=match C.ty src,C.ty dst with
 | some ⟨.slice e,_,_,_,_⟩,some ⟨.string,_,_,_,_⟩=>(match C.ty e with
  | some ⟨.int .u8,_,_,_,_⟩=>true
  | _=>false)
 | _,_=>false
theorem bytesOf_bs:∀ (s:List UInt8),bytesOf (bytesV s)=some s
 | []=>rfl
 | c::s=>by
  have ih:=bytesOf_bs s
  show (match bytesOf (bytesV s) with | some r=>some (UInt8.ofNat ((c.toNat:Int)).toNat::r) | none=>none)=_
  rw [ih]
  simp
theorem conv_bytes {hp:List Blk} {o:AV} {s:List UInt8} {src dst:TypeId} {ar:Bool} (h:IsSl 1 o (bytesV s)) (ht:convT C src dst=true):∀ ts,convE C ar ⟨ts,hp⟩ src dst o=some ⟨.v (.str s),ts,hp, .z⟩:=by
 intro ts
 unfold convT at ht
 split at ht
 ·rename_i e _ _ _ _ _ _ _ _ h1 h2
  split at ht
  ·rename_i h3
   rcases h with ⟨rfl,h⟩ | ⟨ow,rfl⟩
   ·have:s=[]:=by cases s with | nil=>rfl | cons c s=>cases h
    subst this
    simp [convE,h1,h2,h3,isSlc,elems,bytesOf,isArr]
   ·have:=bytesOf_bs s
    simp [convE,h1,h2,h3,isSlc,elems,this,isArr]
  ·cases ht
 ·cases ht
end
end Go.Proofs.YtanopbolgfcojaaGreatDoor.E
