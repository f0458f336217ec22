/- Steps of the seat's proofs: an evaluator of the program's code, its soundness, and what the functions come to. -/
import Derived.Test.YtgbheglnmdnkoaaGreatDoorEac
import Derived.Lib.Bytealg
import Derived.Lib.Join
import Derived.Laws.Externs
import Derived.ChangeArms
import Derived.OpenShut
import Derived.WideShapes
import Derived.Lib.IndexMore
import Derived.Lib.ParseIntB
import Derived.Lib.ItoaNum
import Derived.Lib.LaidTab
import Derived.Stop.LaidErr
set_option linter.unusedSimpArgs false
set_option linter.unusedVariables false
namespace Go.Proofs.YtgbheglnmdnkoaaGreatDoor.E
open Go Go.RowKit Go.Lib
section
variable {P:Program} {C:Cfg}
theorem results_list {B base:Nat} {w0 w:World} {L:Lay} {st:St} {rt:Array Value} (hT:TysOK P C) (hI:Inv C.glob B w0 L w st.hp) (hF:FR st.hp.length L w base st.tmps rt) :
  ∀ (rv:List ResultVar) (rs:List AV),resultsE C st rv=some rs→∃ vs:List Value,(List.mapM (fun x:ResultVar=>match x with
   | .tmp t=>(pure (rt.getD t undef):Sem Value)
   | .cell a t=>do loadVar t (← asAddr (rt.getD a undef))) rv).run P w = .ok vs w∧CR st.hp.length L w rs vs
 | [],rs,h=>by
  simp only [resultsE,Option.some.injEq] at h
  subst h
  exact ⟨[],by simp,rfl,fun i x v hx=>by simp at hx⟩
 | .tmp t::rv,rs,h=>by
  simp only [resultsE,getAt_eq] at h
  split at h
  ·rename_i x hx
   split at h
   ·rename_i xs hxs
    cases h
    obtain ⟨vs,h1,h2,h3⟩:=results_list hT hI hF rv xs hxs
    refine ⟨rt.getD t undef::vs,by simp only [List.mapM_cons,Sem.run_bind,Sem.run_pure,Result.andThen_ok,h1],by simp [h2],fun i y v hy hv => ?_⟩
    cases i with
    | zero=>simp only [List.getElem?_cons_zero,Option.some.injEq] at hy hv;subst hy;subst hv;exact hF.slot t _ hx
    | succ i=>simp only [List.getElem?_cons_succ] at hy hv;exact h3 i y v hy hv
   ·cases h
  ·cases h
 | .cell a t::rv,rs,h=>by
  simp only [resultsE] at h
  split at h
  ·rename_i tv htv
   split at h
   ·rename_i x t' hp' fp' hl
    split at h
    ·rename_i xs hxs
     cases h
     obtain ⟨vs,h1,h2,h3⟩:=results_list hT hI hF rv xs hxs
     obtain ⟨_,_,y,u,k1,k2,k3⟩:=loadAt_ok hT hI hF hl (opnd_ok (ds:=[]) hI hF htv)
     cases k1
     have hrun:(do loadVar t (← asAddr (rt.getD a undef)):Sem Value).run P w = .ok u w:=by
      have k2:(do loadVar t (← Instr.sureAddr (rt.getD a undef)):Sem Value).run P w = .ok u w:=k2
      generalize rt.getD a undef=va at k2
      cases va with
      | pointer p =>
       cases p with
       | some p=>exact k2
       | none=>cases k2
      | _=>cases k2
     refine ⟨u::vs,by rw [List.mapM_cons,Sem.run_bind];dsimp only;rw [hrun];simp only [Result.andThen_ok,Sem.run_bind,h1,Sem.run_pure],by simp [h2],fun i y v hy hv => ?_⟩
     cases i with
     | zero=>simp only [List.getElem?_cons_zero,Option.some.injEq] at hy hv;subst hy;subst hv;exact k3
     | succ i=>simp only [List.getElem?_cons_succ] at hy hv;exact h3 i y v hy hv
    ·cases h
   ·cases h
  ·cases h
theorem results_ok {B base:Nat} {w0 w:World} {L:Lay} {st:St} {rt:Array Value} (hT:TysOK P C) (hI:Inv C.glob B w0 L w st.hp) (hF:FR st.hp.length L w base st.tmps rt) {fn:Func} {rs:List AV}
  (h:resultsE C st fn.results.toList=some rs):∃ rv,(results fn rt).run P w = .ok rv w∧VR st.hp.length L w (one rs) rv:=by
 obtain ⟨vs,h1,h2,h3⟩:=results_list hT hI hF _ rs h
 refine ⟨if h:vs.toArray.size=1 then vs.toArray[0] else .tuple vs.toArray, ?_, ?_⟩
 ·unfold results
  rw [Array.mapM_eq_mapM_toList,Sem.run_bind,Sem.run_map]
  exact (congrArg (fun z:Result (List Value)=>(z.andThen fun a w'=>Result.ok a.toArray w').andThen fun a w'=>Sem.run P (pure (if h:a.size=1 then a[0] else Value.tuple a)) w') h1).trans (by rw [Result.andThen_ok,Result.andThen_ok,Sem.run_pure])
 ·cases rs with
  | nil =>
   have:vs=[]:=List.eq_nil_of_length_eq_zero h2
   subst this
   exact .tup [] #[] rfl fun i x hx=>by simp at hx
  | cons x xs =>
   cases xs with
   | nil =>
    match vs,h2,h3 with
    | [v],_,h3=>exact h3 0 x v rfl rfl
   | cons y ys =>
    match vs,h2,h3 with
    | v::u::vs,h2,h3 =>
     refine .tup _ _ (by simpa using h2) fun i z hz => ?_
     have hlt:i < (v::u::vs).length:=by rw [h2];exact (List.getElem?_eq_some_iff.1 hz).1
     refine h3 i z _ hz ?_
     rw [List.getElem?_eq_getElem hlt]
     simp at hlt
     simp [Array.getD,hlt]
structure TabOK (P:Program) (C:Cfg):Prop where
 ty:TysOK P C
 ord:P.follows .mixedOrders=true
 code : ∀ f fi, C.code f = some fi → ∃ fn, P.funcs[f]? = some fn ∧ fn.body = some fi.body ∧ fn.ntmps = fi.ntmps ∧ fn.results.toList = fi.results ∧ (fn.name == "runtime.NumGoroutine") = false ∧ codeOK C f fi.body = true
 ins:∀ f,C.code f=none→C.ext f=none→∀ fl args hp v hp',insE C fl f args hp=some (v,hp')→∀ B w0 L w (rargs:List Value),Inv C.glob B w0 L w hp→CR hp.length L w args rargs→FCalls P f rargs.toArray w (CallPost C B w0 L w hp.length v hp')
 memo:∀ f args r,C.memo f args=some r→∀ hp B w0 L w (rargs:List Value),Inv C.glob B w0 L w hp→CR hp.length L w args rargs→FCalls P f rargs.toArray w (CallPost C B w0 L w hp.length (shA hp.length r.1) (hp++r.2.map (shB hp.length)))
 ext:∀ f e,C.ext f=some e→∀ args v hp,e hp args=some v→∀ B w0 L w (rargs:List Value),Inv C.glob B w0 L w hp→CR hp.length L w args rargs→FCalls P f rargs.toArray w (CallPost C B w0 L w hp.length v hp)
theorem fcalls_of {f : FuncId} {fn : Func} {c : Code} {args : Array Value} {w : World} {R : Ending → World → Prop} (hf : P.funcs[f]? = some fn) (hb : fn.body = some c) (hn : (fn.name == "runtime.NumGoroutine") = false)
  (h:c.wp P (bodyPost P fn R) { tmps:=args++Array.replicate (fn.ntmps - args.size) undef,defers:=[] } w):FCalls P f args w R:=by
 unfold FCalls
 have:(callFunc f args).run P w = .ok (.enter f args) w:=by
  have hn' : ¬ fn.name = "runtime.NumGoroutine" := by simpa using hn
  unfold callFunc
  simp [hf,hb,hn']
 rw [this]
 exact calls_of_wp hf hb h
theorem frame_ok {n:Nat} {L:Lay} {w:World} {base:Nat} {args:List AV} {rargs:List Value} (h:CR n L w args rargs) (m:Nat) :
  FR n L w base (args.map .v++List.replicate (m - args.length) .sk) (rargs.toArray++Array.replicate (m - rargs.toArray.size) undef):=by
 obtain ⟨h1,h2⟩:=h
 have hsz:rargs.toArray.size=args.length:=by simpa using h1
 refine ⟨by simp [h1],fun i x hx => ?_,fun i t off hi => ?_⟩
 ·by_cases hlt:i < args.length
  ·rw [List.getElem?_append_left (by simpa using hlt)] at hx
   simp only [List.getElem?_map,List.getElem?_eq_getElem hlt,Option.map_some,Option.some.injEq] at hx
   subst hx
   have hlr:i < rargs.length:=by omega
   have:(rargs.toArray++Array.replicate (m - rargs.toArray.size) undef).getD i undef=rargs[i]:=by
    rw [Array.getD_eq_getD_getElem?,Array.getElem?_append_left (by simpa using hlr)]
    simp [hlr]
   show VR _ _ _ _ _
   rw [this]
   exact h2 i _ _ (List.getElem?_eq_getElem hlt) (List.getElem?_eq_getElem hlr)
  ·rw [List.getElem?_append_right (by simpa using hlt)] at hx
   have:=List.eq_of_mem_replicate (List.mem_of_getElem? hx)
   subst this
   show _=undef
   rw [Array.getD_eq_getD_getElem?,Array.getElem?_append_right (by omega),Array.getElem?_replicate]
   split <;> rfl
 ·by_cases hlt:i < args.length
  ·rw [List.getElem?_append_left (by simpa using hlt)] at hi
   simp only [List.getElem?_map,List.getElem?_eq_getElem hlt,Option.map_some,Option.some.injEq] at hi
   cases hi
  ·rw [List.getElem?_append_right (by simpa using hlt)] at hi
   have:=List.eq_of_mem_replicate (List.mem_of_getElem? hi)
   cases this
theorem evCall_ok (hT:TabOK P C):∀ (k fl:Nat),CallOK P C (evCall C k fl)
 | 0,fl=>fun f args hp v hp' h=>by cases h
 | k + 1,fl=>fun f args hp v hp' h B w0 L w rargs hI hA=>by
  unfold evCall at h
  split at h
  ·rename_i r hr
   cases h
   exact hT.memo f args r hr hp B w0 L w rargs hI hA
  split at h
  ·rename_i e he
   simp only [Option.map_eq_some_iff] at h
   obtain ⟨v',hv,h⟩:=h
   cases h
   exact hT.ext f e he args v hp hv B w0 L w rargs hI hA
  ·rename_i hext0
   split at h
   ·rename_i hcode0
    exact hT.ins f hcode0 hext0 fl args hp v hp' h B w0 L w rargs hI hA
   ·rename_i fi hfi
    obtain ⟨fn,hf,hb,hn,hr,hname,hc⟩:=hT.code f fi hfi
    dsimp only at h
    split at h
    ·cases h
    ·rename_i e st' hne hrun
     split at h
     ·cases h
     ·rename_i rs hrs
      refine fcalls_of hf hb hname ?_
      rw [hn]
      refine run_ok (B:=B) (base:=w.heap.size) (w0:=w0) (ds:=[]) hT.ty (evCall_ok hT k _) (evCall_keeps k _) hT.ord hI.size k fi.body hc _ st' e _ w L _ hI (frame_ok hA fi.ntmps) rfl (Nat.le_refl _) hrun fun a' w' hp => ?_
      obtain ⟨L',p1,p2,p3,p4,p5,p6,p7⟩:=hp
      rw [← hr] at hrs
      obtain ⟨rv,q1,q2⟩:=results_ok hT.ty p1 p6 hrs
      have fin:∀ L'' (v:AV) (hp':List Blk),Inv C.glob B w0 L'' w' hp'→Ext hp.length L w L'' w'→KeepLoc w.heap.size L w L'' w'→hp.length≤hp'.length→VR hp'.length L'' w' v rv→bodyPost P fn (CallPost C B w0 L w hp.length v hp') e.to a' w':=fun L'' v hp' k1 k2 k3 k4 k5=>by
       have:bodyPost P fn (CallPost C B w0 L w hp.length v hp') .normal a' w':=⟨p7,rv,q1,rv,L'',rfl,k1,k2,k3,p4,k4,k5⟩
       cases e with
       | normal=>exact this
       | ret=>exact this
       | exit id=>exact absurd rfl (hne id)
      split at h
      ·rename_i hk
       rw [hk] at hrun
       have hfl:=run_floor (evCall_floor k hp.length) (evCall_keeps k hp.length) k fi.body _ _ _ hrun (Nat.le_refl _)
       split at h
       ·rename_i v' hv
        cases h
        refine fin (sealL hp.length L') _ hp (seal_inv p1 hfl.2 (fun b cs hb' c hcm rv' hv' => ?_) fun b es hb' i k v hi rv' hv' => ?_) (p2.trans (Nat.le_refl _) (sealL_ext _ _ _)) (p3.trans (Nat.le_refl _) (sealL_keep _ _ _ _)) (Nat.le_refl _) (shut_ok p1 _ _ _ hv _ q2)
        ·obtain ⟨i,hi⟩:=List.getElem?_of_mem hcm
         obtain ⟨_,_,_,hl⟩:=hI.blks b cs hb'
         obtain ⟨_,_,rv0,_,hv0⟩:=hl i c hi
         exact (hv'.restrict hv0)
        ·obtain ⟨_,_,_,x,_,ra,cc,_,_,hl⟩:=hI.objs.at_ b _ hb'
         obtain ⟨e,kb,_,_,_,_,hv0⟩:=hl i k v hi
         exact (hv'.restrict hv0)
       ·cases h
      ·simp only [cond_eq_ite] at h
       split at h
       ·cases h
       ·rename_i hcl
        split at h
        ·rename_i v' hv
         cases h
         have hlen:(st'.hp.take hp.length).length=hp.length:=by
          have:hp.length≤st'.hp.length:=p5
          simp;omega
         have:=seal_inv (hp:=st'.hp.take hp.length) p1 (fun b hb'=>by rw [List.getElem?_take_of_lt (by omega)]) (fun b cs hb' c hcm rv' hv'=>by
          rw [hlen]
          have hall:cloH hp.length (st'.hp.take hp.length)=true:=by simpa using hcl
          unfold cloH at hall
          have:=all_get hall b _ hb'
          obtain ⟨d,hd⟩:=cloA_fuel c (cloAs_mem.1 (show cloAs hp.length cs=true from this) c hcm)
          exact clo_ok d c hd _ hv') fun b es hb' i k v hi rv' hv'=>by
          rw [hlen]
          have hall:cloH hp.length (st'.hp.take hp.length)=true:=by simpa using hcl
          unfold cloH at hall
          have:=all_get hall b _ hb'
          obtain ⟨d,hd⟩:=cloA_fuel v (cloAs_mem.1 (show cloAs hp.length (es.map (·.2))=true from this) v (List.mem_map.2 ⟨_,List.mem_of_getElem? hi,rfl⟩))
          exact clo_ok d v hd _ hv'
         rw [hlen] at this
         exact fin (sealL hp.length L') _ _ this (p2.trans (Nat.le_refl _) (sealL_ext _ _ _)) (p3.trans (Nat.le_refl _) (sealL_keep _ _ _ _)) (by omega) (by rw [hlen];exact shut_ok p1 _ _ _ hv _ q2)
        ·cases h
      ·cases h
       exact fin L' _ _ p1 p2 p3 p5 q2
      ·cases h
       exact fin L' _ _ p1 p2 p3 p5 q2
    ·cases h
end
section
variable {P:Program} {C:Cfg}
def lay0 (w:World):Lay where
 loc _:=none
 ext _:=0
 fam _:=none
 who r _:=if r < w.heap.size then .imm else .none
def GlobOK (w:World) (g:Nat) (v:AV):Prop:=VR 0 (lay0 w) w (.rop v) (.pointer (some ⟨g,0,none⟩))∧∃ cs t q,w.heap[g]?=some (.cells cs t q)∧cs.size=v.cells.length
theorem glob_lt {w:World} {g:Nat} {o:Obj} (h:w.heap[g]?=some o):g < w.heap.size:=by
 rcases Nat.lt_or_ge g w.heap.size with h' | h'
 ·exact h'
 ·rw [Array.getElem?_eq_none h'] at h;cases h
theorem inv0 {w:World} {glob:Nat→Option AV} (hg:∀ g v,glob g=some v→GlobOK w g v):Inv glob w.heap.size w (lay0 w) w []:=by
 refine ⟨Below.refl _ _,Nat.le_refl _,fun b cs h=>by simp at h,fun r o b h => ?_,fun g m h=>by simp at h,fun r o g h => ?_,fun r o h => ?_,fun _ _=>rfl,fun _ _=>rfl,fun g v h=>(hg g v h).1,⟨fun b o h=>by simp at h,fun b c o q r h=>by simp at h⟩,fun g v h => ?_⟩
 ·simp only [lay0] at h;split at h <;> cases h
 ·simp only [lay0] at h;split at h <;> cases h
 ·simp only [lay0,if_neg (Nat.not_lt.2 h)]
 ·obtain ⟨_,cs,t,q,h1,h2⟩:=hg g v h
  exact ⟨glob_lt h1,cs,t,q,h1,h2⟩
theorem imm0 {w:World} {r o:Nat} {v:Value} (h:w.cell? ⟨r,o,none⟩=some v):(lay0 w).who r o = .imm:=by
 have:r < w.heap.size:=by
  rcases Nat.lt_or_ge r w.heap.size with h' | h'
  ·exact h'
  ·exfalso
   simp [World.cell?,Array.getElem?_eq_none h'] at h
 simp only [lay0,if_pos this]
theorem entry (hT:TabOK P C) {f:FuncId} {args:List AV} {k fl:Nat} {v:AV} {hp':List Blk} {w:World} {rargs:List Value} (hf:(C.code f).isSome=true) (hg:∀ g v,C.glob g=some v→GlobOK w g v)
  (h:evCall C k fl f args []=some (v,hp')) (hA:CR 0 (lay0 w) w args rargs):Calls P f rargs.toArray w fun e w'=>∃ rv L',e = .returned rv∧VR hp'.length L' w' v rv∧Below w.heap.size w w':=by
 have:=evCall_ok hT k fl f args [] v hp' h w.heap.size w (lay0 w) w rargs (inv0 hg) hA
 obtain ⟨fi,hf⟩:=Option.isSome_iff_exists.1 hf
 obtain ⟨fn,hfn,hb,_,_,hn,_⟩:=hT.code f fi hf
 unfold FCalls at this
 have he:(callFunc f rargs.toArray).run P w = .ok (.enter f rargs.toArray) w:=by
  have hn' : ¬ fn.name = "runtime.NumGoroutine" := by simpa using hn
  unfold callFunc
  simp [hfn,hb,hn']
 rw [he] at this
 refine Calls.mono this fun e w' hp => ?_
 obtain ⟨rv,L',h1,h2,_,_,_,_,h3⟩:=hp
 exact ⟨rv,L',h1,h3,h2.below⟩
theorem entry_true (hT:TabOK P C) {f:FuncId} {args:List AV} {k fl:Nat} {hp':List Blk} {w:World} {rargs:List Value} (hf:(C.code f).isSome=true) (hg:∀ g v,C.glob g=some v→GlobOK w g v)
  (h:evCall C k fl f args []=some (.bool true,hp')) (hA:CR 0 (lay0 w) w args rargs):Calls P f rargs.toArray w fun e w'=>e = .returned (.bool true)∧Below w.heap.size w w':=by
 refine Calls.mono (entry hT hf hg h hA) fun e w' hp => ?_
 obtain ⟨rv,L',h1,h2,h3⟩:=hp
 cases h2
 exact ⟨h1,h3⟩
theorem CR.nil {n:Nat} {L:Lay} {w:World}:CR n L w [] []:=⟨rfl,fun i x v h=>by simp at h⟩
theorem CR.cons {n:Nat} {L:Lay} {w:World} {x:AV} {v:Value} {xs:List AV} {vs:List Value} (h:VR n L w x v) (k:CR n L w xs vs):CR n L w (x::xs) (v::vs) :=
 ⟨by simp [k.1],fun i y u hy hu=>by
  cases i with
  | zero=>simp at hy hu;subst hy;subst hu;exact h
  | succ i=>simp at hy hu;exact k.2 i y u hy hu⟩
end
section
variable {P:Program}
def at2 {α:Type} (t:List (List α)) (i:Nat):Option α :=
 match getAt t (i / 16) with
 | some r=>getAt r (i % 16)
 | none=>none
def FI.of (f:Func):Option FI :=
 match f.body with
 | some b=>some ⟨f.ntmps,f.results.toList,b⟩
 | none=>none
def tyAt (tys:List (List (Option TI))) (t:Nat):Option TI :=
 match at2 tys t with
 | some x=>x
 | none=>none
def fnAt (fns:List (List (Option FI))) (f:Nat):Option FI :=
 match at2 fns f with
 | some x=>x
 | none=>none
def lookN {α:Type} (r:Nat):List (Nat × α)→Option α
 | []=>none
 | (k,a)::l=>bif Nat.beq k r then some a else lookN r l
def mkCfg (n m:Nat) (tys:List (List (Option TI))) (fns:List (List (Option FI))) (locs:List (List Nat)) (loops afters:List (List (List (Nat × Nat)))) (prs:List (List (List (Nat × List (Nat × Nat)))))
  (kinds:List (List Kind)) (arrs:List (List Bool)) (glob:Nat→Option AV) (ext:FuncId→Option (List AV→Option AV)) (arrb:FuncId→Bool:=fun _=>false) (extH:FuncId→Option (List Blk→List AV→Option AV):=fun _=>none) (ins:FuncId→Option (Nat × Nat):=fun _=>none) (memo:FuncId→List AV→Option (AV × List Blk):=fun _ _=>none):Cfg where
 ins:=ins
 memo:=memo
 arrB:=arrb
 ty t:=bif Nat.blt t n then tyAt tys t else none
 code f:=bif (ins f).isSome then none else bif Nat.blt f m then fnAt fns f else none
 glob:=glob
 ext f:=match ext f with
  | some e=>some fun _=>e
  | none=>extH f
 isLoc f:=match at2 locs f with | some x=>x | none=>0
 loop f r:=match at2 loops f with | some l=>lookN r l | none=>none
 after f r:=match at2 afters f with | some l=>lookN r l | none=>none
 pairs f r:=match at2 prs f with | some l=>(match lookN r l with | some x=>x | none=>[]) | none=>[]
 kind f:=match at2 kinds f with | some x=>x | none => .pure
 arrF f:=match at2 arrs f with | some x=>x | none=>false
theorem range_map {α:Type} {f g:Nat→α} {n:Nat} (h:(List.range n).map f=(List.range n).map g) (i:Nat) (hi:i < n):f i=g i:=by
 have:=congrArg (fun l=>l[i]?) h
 simpa [hi] using this
theorem blt_lt {a b:Nat} (h:Nat.blt a b=true):a < b:=Nat.le_of_ble_eq_true h
theorem mkTab {n m:Nat} {tys:List (List (Option TI))} {fns:List (List (Option FI))} {locs:List (List Nat)} {loops afters:List (List (List (Nat × Nat)))} {prs:List (List (List (Nat × List (Nat × Nat))))} {kinds:List (List Kind)} {arrs:List (List Bool)} {glob:Nat→Option AV} {ext:FuncId→Option (List AV→Option AV)} {arrb:FuncId→Bool} {extH:FuncId→Option (List Blk→List AV→Option AV)} {ins:FuncId→Option (Nat × Nat)} {memo:FuncId→List AV→Option (AV × List Blk)}
  (hty:(List.range n).map (tyAt tys)=(List.range n).map (tiOf P))
  (hfn:(List.range m).map (fnAt fns)=(List.range m).map fun f=>match P.funcs[f]? with | some fn=>FI.of fn | none=>none)
  (hok:(List.range m).all (fun f=>match P.funcs[f]? with
   | some fn => !(fn.name == "runtime.NumGoroutine") && (match FI.of fn with | some fi => codeOK (mkCfg n m tys fns locs loops afters prs kinds arrs glob ext arrb extH ins memo) f fi.body | none => true)
   | none=>true)=true)
  (hord:P.follows .mixedOrders=true)
  (hext:∀ f e,ext f=some e→∀ args v hp,e args=some v→∀ B w0 L w (rargs:List Value),Inv glob B w0 L w hp→CR hp.length L w args rargs→FCalls P f rargs.toArray w (CallPost (mkCfg n m tys fns locs loops afters prs kinds arrs glob ext arrb extH ins memo) B w0 L w hp.length v hp))
  (hextH:∀ f e,extH f=some e→∀ args v hp,e hp args=some v→∀ B w0 L w (rargs:List Value),Inv glob B w0 L w hp→CR hp.length L w args rargs→FCalls P f rargs.toArray w (CallPost (mkCfg n m tys fns locs loops afters prs kinds arrs glob ext arrb extH ins memo) B w0 L w hp.length v hp):=by intro f e h;cases h)
  (hins:∀ f q,ins f=some q→∀ fl args hp v hp',insE (mkCfg n m tys fns locs loops afters prs kinds arrs glob ext arrb extH ins memo) fl f args hp=some (v,hp')→∀ B w0 L w (rargs:List Value),Inv glob B w0 L w hp→CR hp.length L w args rargs→FCalls P f rargs.toArray w (CallPost (mkCfg n m tys fns locs loops afters prs kinds arrs glob ext arrb extH ins memo) B w0 L w hp.length v hp'):=by intro f q h;cases h)
  (hmemo:∀ f args r,memo f args=some r→∀ hp B w0 L w (rargs:List Value),Inv glob B w0 L w hp→CR hp.length L w args rargs→FCalls P f rargs.toArray w (CallPost (mkCfg n m tys fns locs loops afters prs kinds arrs glob ext arrb extH ins memo) B w0 L w hp.length (shA hp.length r.1) (hp++r.2.map (shB hp.length))):=by intro f args r h;cases h) :
  TabOK P (mkCfg n m tys fns locs loops afters prs kinds arrs glob ext arrb extH ins memo):=by
 refine ⟨fun t ti h => ?_,hord,fun f fi h => ?_,fun f _ _ fl args hp v hp' h B w0 L w rargs hI hA => ?_,fun f args r h=>hmemo f args r h,fun f e h => ?_⟩
 ·simp only [mkCfg,cond_eq_ite] at h
  split at h
  ·rename_i hlt
   rw [range_map hty t (blt_lt hlt)] at h
   exact tiOf_ok h
  ·cases h
 ·have hc:=h
  simp only [mkCfg,cond_eq_ite] at h
  split at h
  ·cases h
  split at h
  ·rename_i hlt
   rw [range_map hfn f (blt_lt hlt)] at h
   have:=List.all_eq_true.1 hok f (List.mem_range.2 (blt_lt hlt))
   cases hf:P.funcs[f]? with
   | none=>rw [hf] at h;cases h
   | some fn =>
    rw [hf] at h this
    dsimp only at h this
    rw [h] at this
    simp only [Bool.and_eq_true,Bool.not_eq_true'] at this
    unfold FI.of at h
    split at h
    ·rename_i b hb
     cases h
     exact ⟨fn,rfl,hb,rfl,rfl,this.1,this.2⟩
    ·cases h
  ·cases h
 ·obtain ⟨q,hq⟩:=insE_ins h
  exact hins f q hq fl args hp v hp' h B w0 L w rargs hI hA
 ·have h:(match ext f with | some e=>some fun _=>e | none=>extH f)=some e:=h
  split at h
  ·rename_i e' he
   cases h
   exact hext f e' he
  ·exact hextH f e h
end
section
variable {P : Program} {C : Cfg} {call : CallF} {fl : Nat} {me : FuncId}

/-! ### one way through a code: where a step hangs on what is not known, what it comes to is told, and asked -/
inductive Ora where
  /-- an operation's value -/
  | val (v : AV)
  /-- a call's value, and the heap behind it -/
  | res (v : AV) (hp : List Blk)
  /-- the value of a reading, of an append, .. and the heap behind it -/
  | mem (v : AV) (hp : List Blk) (fp : Fp)
  /-- the heap behind a store -/
  | sto (hp : List Blk) (fp : Fp)
  /-- a loop's end -/
  | loop (e : Ex) (st : St)

def find2 (a b : Nat) : List (Nat × Nat × Ora) → Option Ora
  | [] => none
  | (i, j, o) :: l => bif Nat.beq i a && Nat.beq j b then some o else find2 a b l

/-- what an operation's value is asked to be -/
def askOp (C : Cfg) (call : CallF) (fl : Nat) (me : FuncId) (o : Oper) (st : St) (v : AV) : Prop :=
  match o.op with
  | .binOp op t x y _ => match opv C st.tmps x, opv C st.tmps y with
    | some a, some b => binE C op t (isCst x || isCst y) a b = some v
    | _, _ => False
  | .unOp op _ x => match opv C st.tmps x with
    | some a => unE op a = some v
    | none => False
  | .indexAddr t x i => match opnd C st.tmps x, opv C st.tmps i with
    | some a, some (.int _ n) => indexAddr C t a n = some (.v v)
    | _, _ => False
  | .index t x i => match opv C st.tmps x, opv C st.tmps i with
    | some a, some (.int _ n) => indexE C t a n = some v
    | _, _ => False
  | .extract x i => match opv C st.tmps x with
    | some (.tup vs) => getAt vs i = some v
    | _ => False
  | .move x => opv C st.tmps x = some v
  | .assign x => opv C st.tmps x = some v
  | .field t x f => match opv C st.tmps x with
    | some (.agg cs) => match field C t f with
      | some (off, ti) => part ti cs off = some v
      | none => False
    | _ => False
  | _ => evOp C call fl me o st = some ⟨.v v, st.tmps, st.hp, .z⟩

theorem opv_nd {tmps : List TV} {x : Operand} {v : AV} (h : opv C tmps x = some v) : opnd C tmps x = some (.v v) := by
  unfold opv at h
  split at h
  · rename_i a ha; cases h; exact ha
  · cases h
theorem askOp_ok {o : Oper} {st : St} {v : AV} (h : askOp C call fl me o st v) : evOp C call fl me o st = some ⟨.v v, st.tmps, st.hp, .z⟩ := by
  unfold askOp at h
  split at h
  · rename_i op t x y _ hop
    split at h
    · rename_i a b ha hb
      unfold evOp
      simp only [hop, ha, hb, h, ofO, Option.map_some]
    · cases h
  · rename_i op _ x hop
    split at h
    · rename_i a ha
      unfold evOp
      simp only [hop, ha, h, ofO, Option.map_some]
    · cases h
  · rename_i t x i hop
    split at h
    · rename_i a k n ha hn
      unfold evOp
      simp only [hop, ha, hn, h, pureR, Option.bind_some]
    · cases h
  · rename_i t x i hop
    split at h
    · rename_i a k n ha hn
      unfold evOp
      simp only [hop, ha, hn, h, ofO, Option.map_some]
    · cases h
  · rename_i x i hop
    split at h
    · rename_i vs ha
      unfold evOp
      simp only [hop, ha, h, ofO, Option.map_some]
    · cases h
  · rename_i x hop
    unfold evOp
    simp only [hop, opv_nd h, Option.bind_some, pureR]
  · rename_i x hop
    unfold evOp
    simp only [hop, opv_nd h, Option.bind_some, pureR]
  · rename_i t x f hop
    split at h
    · rename_i cs ha
      split at h
      · rename_i off ti hf
        unfold evOp
        simp only [hop, ha, hf, h, ofO, Option.map_some]
      · cases h
    · cases h
  · exact h

/-- a new slice -/
def mkSl (C : Cfg) (st : St) (t : TypeId) (l c : AV) : Option Res :=
  match C.ty t, l, c with
    | some ⟨.slice e, _, _, _, _⟩, .int _ n, .int _ m => match C.ty e with
      | none => none
      | some ei => bif decide (0 ≤ n) && decide (n ≤ m) && decide (m * ei.bytes ≤ 140737488355328) && !(ei.size == 0) && !(ei.bytes == 0) then
          newBlk st (zeros ei m.toNat) (fun b => .arr ei.size b 0 n.toNat) else none
    | _, _, _ => none

/-- what a reading, an append, .. is asked to come to -/
def askMem (C : Cfg) (call : CallF) (fl : Nat) (me : FuncId) (o : Oper) (st : St) (v : AV) (hp : List Blk) (fp : Fp) : Prop :=
  match o.op with
  | .call c => match mapO (opv C st.tmps) c.args.toList, c.callee with
    | some args, .builtin b => ∀ ts, builtinE C fl (C.arrF me) ⟨ts, st.hp⟩ b c.argTypes.toList args = some ⟨.v v, ts, hp, fp⟩
    | _, _ => False
  | .load t x => match opnd C st.tmps x with
    | some (.lp s off) => match slotCells st.tmps s, C.ty t with
      | some cs, some ti => part ti cs off = some v ∧ hp = st.hp ∧ fp = .lr s
      | _, _ => False
    | some a => ∀ ts, loadAt C ⟨ts, st.hp⟩ t a = some ⟨.v v, ts, hp, fp⟩
    | none => False
  | .slice t x lo hi mx => match opnd C st.tmps x, optV C st.tmps lo, optV C st.tmps hi, optV C st.tmps mx with
    | some a, some l, some h, some m => (∀ ts, sliceE C ⟨ts, st.hp⟩ t a l h m = some v) ∧ hp = st.hp ∧ fp = slFp a
    | _, _, _, _ => False
  | .convert s d x => match opv C st.tmps x with
    | some a => ∀ ts, convE C (C.arrF me) ⟨ts, st.hp⟩ s d a = some ⟨.v v, ts, hp, fp⟩
    | none => False
  | .makeSlice t l c => match opv C st.tmps l, opv C st.tmps c with
    | some a, some b => ∀ ts, mkSl C ⟨ts, st.hp⟩ t a b = some ⟨.v v, ts, hp, fp⟩
    | _, _ => False
  | .lookup t m k ok => match opv C st.tmps m, opv C st.tmps k with
    | some a, some b => ∀ ts, lookupE C ⟨ts, st.hp⟩ t a b ok = some ⟨.v v, ts, hp, fp⟩
    | _, _ => False
  | .next x isStr => match opv C st.tmps x with
    | some a => ∀ ts, nextE fl ⟨ts, st.hp⟩ a isStr = some ⟨.v v, ts, hp, fp⟩
    | none => False
  | _ => evOp C call fl me o st = some ⟨.v v, st.tmps, hp, fp⟩

theorem askMem_ok {o : Oper} {st : St} {v : AV} {hp : List Blk} {fp : Fp} (h : askMem C call fl me o st v hp fp) : evOp C call fl me o st = some ⟨.v v, st.tmps, hp, fp⟩ := by
  unfold askMem at h
  split at h
  · rename_i c hop
    split at h
    · rename_i args b ha hc
      unfold evOp
      simp only [hop, ha, hc]
      exact h st.tmps
    · cases h
  · rename_i t x hop
    split at h
    · rename_i s off ha
      split at h
      · rename_i cs ti h1 h2
        obtain ⟨k1, rfl, rfl⟩ := h
        unfold evOp
        simp only [hop, ha, Option.bind_some, loadAt, h1, h2, k1, Option.map_some]
      · cases h
    · rename_i a _ ha
      unfold evOp
      simp only [hop, ha, Option.bind_some]
      exact h st.tmps
    · cases h
  · rename_i t x lo hi mx hop
    split at h
    · rename_i a l hh m h1 h2 h3 h4
      obtain ⟨k1, rfl, rfl⟩ := h
      unfold evOp
      simp only [hop, h1, h2, h3, h4]
      rw [k1 st.tmps]
      rfl
    · cases h
  · rename_i s d x hop
    split at h
    · rename_i a ha
      unfold evOp
      simp only [hop, ha]
      exact h st.tmps
    · cases h
  · rename_i t l c hop
    split at h
    · rename_i a b ha hb
      have := h st.tmps
      unfold mkSl at this
      unfold evOp
      simp only [hop]
      split at this
      · rename_i e _ _ _ _ k n k' m' h1
        simp only [h1, ha, hb]
        exact this
      · cases this
    · cases h
  · rename_i t m k ok hop
    split at h
    · rename_i a b ha hb
      unfold evOp
      simp only [hop, ha, hb]
      exact h st.tmps
    · cases h
  · rename_i x isStr hop
    split at h
    · rename_i a ha
      unfold evOp
      simp only [hop, ha]
      exact h st.tmps
    · cases h
  · exact h

/-- what a store is asked to come to -/
def askSto (C : Cfg) (fl : Nat) (o : Oper) (st : St) (hp : List Blk) (fp : Fp) : Prop :=
  match o.op with
  | .store t x y => match opnd C st.tmps x, opv C st.tmps y with
    | some a, some u => ∀ ts, storeAt C fl ⟨ts, st.hp⟩ t a u = some ⟨.sk, ts, hp, fp⟩
    | _, _ => False
  | .mapUpdate t m k x => match opv C st.tmps m, opv C st.tmps k, opv C st.tmps x with
    | some a, some b, some c => ∀ ts, mapUpdateE C fl ⟨ts, st.hp⟩ t a b c = some ⟨.sk, ts, hp, fp⟩
    | _, _, _ => False
  | _ => False

theorem askSto_ok {o : Oper} {st : St} {hp : List Blk} {fp : Fp} (h : askSto C fl o st hp fp) : evOp C call fl me o st = some ⟨.sk, st.tmps, hp, fp⟩ := by
  unfold askSto at h
  split at h
  · rename_i t x y hop
    split at h
    · rename_i a u ha hu
      unfold evOp
      simp only [hop, ha, hu]
      exact h st.tmps
    · cases h
  · rename_i t m k x hop
    split at h
    · rename_i a b c ha hb hc
      unfold evOp
      simp only [hop, ha, hb, hc]
      exact h st.tmps
    · cases h
  · cases h

/-- what a call is asked to come to -/
def askCall (C : Cfg) (call : CallF) (o : Oper) (st : St) (v : AV) (hp : List Blk) : Prop :=
  match o.op with
  | .call c => match mapO (opv C st.tmps) c.args.toList, c.callee with
    | some args, .value f => match opv C st.tmps f with
      | some (.fn (.func g) first captured) => call g (first ++ args ++ captured) st.hp = some (v, hp)
      | _ => False
    | _, _ => False
  | _ => False

/-- what a call touches -/
def calleeFp (C : Cfg) (o : Oper) (st : St) : Fp :=
  match o.op with
  | .call c => match c.callee with
    | .value f => match opv C st.tmps f with
      | some (.fn (.func g) _ _) => callFp C g st.hp.length
      | _ => .hw
    | _ => .hw
  | _ => .hw

theorem askCall_ok {o : Oper} {st : St} {v : AV} {hp : List Blk} (h : askCall C call o st v hp) : evOp C call fl me o st = some ⟨.v v, st.tmps, hp, calleeFp C o st⟩ := by
  unfold askCall at h
  split at h
  · rename_i c hop
    split at h
    · rename_i args f ha hc
      split at h
      · rename_i g first captured hf
        unfold evOp calleeFp
        simp only [hop, ha, hc, hf, callE, h]
      · cases h
    · cases h
  · cases h

def evOneP (C : Cfg) (call : CallF) (fl : Nat) (me : FuncId) (ops : List Oper) (π : List (Nat × Nat × Ora)) (id j : Nat) (o : Oper) (st : St) : Option (St × Fp × Option Prop) :=
  match find2 id j π with
  | none => match evOne C call fl me ops o st with
    | some (st', f) => some (st', f, none)
    | none => none
  | some (.val v) => match wantedE ops st.tmps o with
    | some true => match put st.tmps o.dst (.v v) with
      | some t => some (⟨t, st.hp⟩, .z, some (askOp C call fl me o st v))
      | none => none
    | _ => none
  | some (.res v hp) => match wantedE ops st.tmps o with
    | some true => match put st.tmps o.dst (.v v) with
      | some t => some (⟨t, hp⟩, calleeFp C o st, some (askCall C call o st v hp))
      | none => none
    | _ => none
  | some (.mem v hp fp) => match wantedE ops st.tmps o with
    | some true => match put st.tmps o.dst (.v v) with
      | some t => some (⟨t, hp⟩, fp, some (askMem C call fl me o st v hp fp))
      | none => none
    | _ => none
  | some (.sto hp fp) => match wantedE ops st.tmps o with
    | some true => match put st.tmps o.dst .sk with
      | some t => some (⟨t, hp⟩, fp, some (askSto C fl o st hp fp))
      | none => none
    | _ => none
  | some (.loop _ _) => none

def andO : Option Prop → List Prop → List Prop
  | none, l => l
  | some p, l => p :: l

def runOpsP (C : Cfg) (call : CallF) (fl : Nat) (me : FuncId) (ops : List Oper) (π : List (Nat × Nat × Ora)) (id : Nat) : Nat → List Oper → St → Option (St × List Fp × List Prop)
  | _, [], st => some (st, [], [])
  | j, o :: rest, st => match evOneP C call fl me ops π id j o st with
    | some (st1, f, φ) => match runOpsP C call fl me ops π id (j + 1) rest st1 with
      | some (st', fps, φs) => some (st', f :: fps, andO φ φs)
      | none => none
    | none => none

/-- a loop out of a head that is clean -/
def evLoopC (body : St → Option (Ex × St)) (clean : St → St) : Nat → St → Option (Ex × St)
  | 0, _ => none
  | k + 1, st => match body st with
    | some (.normal, st') => evLoopC body clean k (clean st')
    | r => r

theorem evLoopC_ok (body : St → Option (Ex × St)) (clean : St → St) : ∀ (k : Nat) (st : St), evLoop body clean k st = evLoopC body clean k (clean st)
  | 0, _ => rfl
  | k + 1, st => by
    simp only [evLoop, evLoopC]
    split
    · rename_i st' h; rw [h]; exact evLoopC_ok body clean k st'
    · rename_i h
      split
      · rename_i st' h2; exact absurd h2 (h st')
      · rfl

/-- a loop out of a clean head, to a clean end -/
def loopN (C : Cfg) (call : CallF) (fl : Nat) (me : FuncId) (k : Nat) (b : Code) (r n : Nat) (st : St) : Option (Ex × St) :=
  (evLoopC (run C call fl me k b) (cleanSt (C.loop me r)) n st).map fun p => (p.1, cleanSt (C.after me r) p.2)

def allP : List Prop → Prop
  | [] => True
  | [p] => p
  | p :: q :: ps => p ∧ allP (q :: ps)

theorem allP_cons {p : Prop} {ps : List Prop} : allP (p :: ps) ↔ p ∧ allP ps := by cases ps <;> simp [allP]
theorem allP_append : ∀ {ps qs : List Prop}, allP (ps ++ qs) ↔ allP ps ∧ allP qs
  | [], qs => by simp [allP]
  | p :: ps, qs => by rw [List.cons_append, allP_cons, allP_cons, allP_append, and_assoc]

theorem evOneP_ok {ops : List Oper} {π : List (Nat × Nat × Ora)} {id j : Nat} {o : Oper} {st st' : St} {f : Fp} {φ : Option Prop} (h : evOneP C call fl me ops π id j o st = some (st', f, φ)) (hφ : ∀ p, φ = some p → p) :
    evOne C call fl me ops o st = some (st', f) := by
  unfold evOneP at h
  split at h
  · split at h
    · rename_i h1; cases h; exact h1
    · cases h
  · split at h
    · rename_i hw
      split at h
      · rename_i t ht
        cases h
        unfold evOne
        simp only [hw, askOp_ok (hφ _ rfl), ht]
      · cases h
    · cases h
  · split at h
    · rename_i hw
      split at h
      · rename_i t ht
        cases h
        unfold evOne
        simp only [hw, askCall_ok (hφ _ rfl), ht]
      · cases h
    · cases h
  · split at h
    · rename_i hw
      split at h
      · rename_i t ht
        cases h
        unfold evOne
        simp only [hw, askMem_ok (hφ _ rfl), ht]
      · cases h
    · cases h
  · split at h
    · rename_i hw
      split at h
      · rename_i t ht
        cases h
        unfold evOne
        simp only [hw, askSto_ok (hφ _ rfl), ht]
      · cases h
    · cases h
  · cases h

theorem runOpsP_ok {ops : List Oper} {π : List (Nat × Nat × Ora)} {id : Nat} : ∀ (l : List Oper) (j : Nat) (st st' : St) (fps : List Fp) (φs : List Prop), runOpsP C call fl me ops π id j l st = some (st', fps, φs) → allP φs →
    runOps C call fl me ops l st = some (st', fps)
  | [], j, st, st', fps, φs, h, _ => by simp only [runOpsP, Option.some.injEq, Prod.mk.injEq] at h; obtain ⟨rfl, rfl, _⟩ := h; rfl
  | o :: l, j, st, st', fps, φs, h, hφ => by
    simp only [runOpsP] at h
    split at h
    · rename_i st1 f φ h1
      split at h
      · rename_i st2 fs ψ h2
        cases h
        have hh : (∀ p, φ = some p → p) ∧ allP ψ := by
          cases φ with
          | none => exact ⟨fun p h => (by cases h), hφ⟩
          | some p => have := allP_cons.1 hφ; exact ⟨fun q h => by cases h; exact this.1, this.2⟩
        simp only [runOps, evOneP_ok h1 hh.1, runOpsP_ok l (j + 1) st1 st' fs ψ h2 hh.2]
      · cases h
    · cases h

/-- slots, told sparsely -/
def slots (n : Nat) (l : List (Nat × AV)) : List TV := (List.range n).map fun i => match lookN i l with
  | some v => .v v
  | none => .junk
/-- the body of the loop whose first region has a number -/
def loopAt (r : Nat) : Code → Option Code
  | .seq a b => match loopAt r a with
    | some c => some c
    | none => loopAt r b
  | .cond _ a b => match loopAt r a with
    | some c => some c
    | none => loopAt r b
  | .block _ a => loopAt r a
  | .loop a => bif Nat.beq (firstReg a) r then some a else loopAt r a
  | _ => none

end
section
variable {P:Program} {C:Cfg}
theorem frozen_of_block {w w':World} {r o:Nat} (h:w'.heap[r]?=w.heap[r]?):w'.frozen? ⟨r,o,none⟩=w.frozen? ⟨r,o,none⟩:=by
 unfold World.frozen?;simp only [h]
theorem cell_of_block {w w':World} {r o:Nat} (h:w'.heap[r]?=w.heap[r]?):w'.cell? ⟨r,o,none⟩=w.cell? ⟨r,o,none⟩:=World.cell?_of_block h
theorem low {w:World} {r o:Nat} {v:Value} (h:w.cell? ⟨r,o,none⟩=some v):r < w.heap.size:=by
 rcases Nat.lt_or_ge r w.heap.size with h' | h'
 ·exact h'
 ·exfalso
  simp [World.cell?,Array.getElem?_eq_none h'] at h
theorem ext_grow {n:Nat} {glob:Nat→Option AV} {B:Nat} {w0:World} {L:Lay} {w w':World} {hp:List Blk} (h:Inv glob B w0 L w hp) (hb:Below w.heap.size w w'):Ext n L w L w':=by
 refine ⟨fun r o hr=>⟨hr, ?_⟩,fun b p _ hp=>⟨hp,fun _ _ h=>h,rfl⟩,fun g F _ hF=>⟨F,hF, .inl rfl⟩,hb.size,fun r o hr=>frozen_of_block (hb.block r hr),fun _ _ _ h=>h⟩
 refine cell_of_block (hb.block r ?_)
 rcases Nat.lt_or_ge r w.heap.size with h' | h'
 ·exact h'
 ·rw [h.fresh r o h'] at hr;cases hr
theorem inv_grow {glob:Nat→Option AV} {B:Nat} {w0:World} {L:Lay} {w w':World} {hp:List Blk} (h:Inv glob B w0 L w hp) (hb:Below w.heap.size w w'):Inv glob B w0 L w' hp:=by
 refine ⟨h.below.trans (hb.mono h.size),Nat.le_trans h.size hb.size,fun b cs hc => ?_,fun r o b hr => ?_,h.fams,fun r o g hr => ?_,fun r o hr=>h.fresh r o (Nat.le_trans hb.size hr),h.noLoc,h.noFam,fun g v hg=>(h.globs g v hg).mono (Nat.le_refl _) (ext_grow h hb),h.objs.keep (ext_grow h hb) (fun _ _ _ _=>rfl) (KeepO.of fun r hr=>hb.block r hr) (fun _ _ h=>h) (Nat.le_refl _),h.kept⟩
 ·obtain ⟨p,h1,h2,h3⟩:=h.blks b cs hc
  refine ⟨p,h1,h2,fun j c hj => ?_⟩
  obtain ⟨k1,k2,rv,k3,k4⟩:=h3 j c hj
  exact ⟨k1,k2,rv,(cell_of_block (hb.block _ (low k3))).trans k3,k4.mono (Nat.le_refl _) (ext_grow h hb)⟩
 ·obtain ⟨k1,⟨v,k2⟩,k3⟩:=h.own r o b hr
  exact ⟨k1,⟨v,(cell_of_block (hb.block _ (low k2))).trans k2⟩,(frozen_of_block (hb.block _ (low k2))).trans k3⟩
 ·obtain ⟨k1,⟨v,k2⟩,k3⟩:=h.spare r o g hr
  exact ⟨k1,⟨v,(cell_of_block (hb.block _ (low k2))).trans k2⟩,(frozen_of_block (hb.block _ (low k2))).trans k3⟩
theorem grow_post {B:Nat} {w0:World} {L:Lay} {w w':World} {hp:List Blk} (h:Inv C.glob B w0 L w hp) (hb:Below w.heap.size w w') {v:AV} {rv:Value} (hv:VR hp.length L w' v rv) :
  CallPost C B w0 L w hp.length v hp (.returned rv) w' :=
 ⟨rv,L,rfl,inv_grow h hb,ext_grow h hb,fun r o t hr hl=>⟨hl,cell_of_block (hb.block _ hr),frozen_of_block (hb.block _ hr)⟩,hb.size,Nat.le_refl _,hv⟩
def ixB (c:Nat):List UInt8→Nat→Int
 | [],_ => -1
 | b::l,i=>bif Nat.beq b.toNat c then (i:Int) else ixB c l (i + 1)
theorem ixB_eq {c:Nat} (hc:c < 256):∀ (l:List UInt8) (i:Nat),ixB c l i=if indexByte l c.toUInt8 = -1 then -1 else indexByte l c.toUInt8 + i
 | [],i=>by simp [ixB,indexByte]
 | b::l,i=>by
  have ih:=ixB_eq hc l (i + 1)
  have hge:=indexByte_ge l c.toUInt8
  unfold ixB indexByte
  by_cases h:b=c.toUInt8
  ·have e:b.toNat=c:=by
    rw [h]
    show (UInt8.ofNat c).toNat=c
    rw [UInt8.toNat_ofNat'];exact Nat.mod_eq_of_lt hc
   have e2:Nat.beq b.toNat c=true:=by rw [e];exact Nat.beq_refl c
   have e3:(b==c.toUInt8)=true:=by simpa using h
   rw [e2,cond_true rfl]
   simp only [e3,if_true]
   rw [if_neg (by omega)];omega
  ·have e2:Nat.beq b.toNat c=false:=by
    rw [Bool.eq_false_iff]
    intro h2
    apply h
    have:b.toNat=c:=Nat.eq_of_beq_eq_true h2
    rw [← this]
    show b=UInt8.ofNat b.toNat
    exact UInt8.ofNat_toNat.symm
   have e3:¬ (b==c.toUInt8)=true:=by simpa using h
   rw [e2,cond_false rfl,ih]
   simp only [if_neg e3]
   generalize indexByte l c.toUInt8=x at *
   by_cases hx:x = -1
   ·subst hx;rfl
   ·have hx':¬ (x == -1)=true:=by simpa using hx
    rw [if_neg hx,if_neg hx',if_neg (by omega)]
    omega
def extIx:List AV→Option AV
 | [.str s, .int .u8 c]=>bif decide (0≤c)&&decide (c < 256) then some (.int .i64 (ixB c.toNat s 0)) else none
 | _=>none
theorem extIx_ok {f : FuncId} {fn : Func} (hf : P.funcs[f]? = some fn) (hname : (fn.name == "runtime.NumGoroutine") = false) (hb : fn.body.isNone = true) (hn : Extern.findNext fn = none) (he : Extern.find fn = some Extern.BytealgIndexByte.indexByte)
  (args:List AV) (v:AV) (hp:List Blk) (hv:extIx args=some v) (B:Nat) (w0:World) (L:Lay) (w:World) (rargs:List Value) (hI:Inv C.glob B w0 L w hp) (hA:CR hp.length L w args rargs) :
  FCalls P f rargs.toArray w (CallPost C B w0 L w hp.length v hp):=by
 unfold extIx at hv
 split at hv
 ·rename_i s c
  simp only [cond_eq_ite] at hv
  split at hv
  ·rename_i hc
   cases hv
   simp only [Bool.and_eq_true,decide_eq_true_eq] at hc
   obtain ⟨hl,hA⟩:=hA
   obtain ⟨r0,r1,rfl⟩:∃ r0 r1,rargs=[r0,r1]:=by
    match rargs,hl with
    | [a,b],_=>exact ⟨a,b,rfl⟩
   have h0:=hA 0 _ r0 rfl rfl
   have h1:=hA 1 _ r1 rfl rfl
   cases h0 with | str _ bs hs => ?_
   cases h1
   unfold FCalls
   rw [run_callFunc_extern hf hname hb hn he,Lib.run_indexByteString]
   simp only [Result.andThen]
   refine grow_post hI (Below.refl _ _) ?_
   have e:=ixB_eq (c:=c.toNat) (by omega) s 0
   have hge:=indexByte_ge s c.toNat.toUInt8
   rw [hs]
   rw [show ixB c.toNat s 0=indexByte s c.toNat.toUInt8 by rw [e];split <;> omega]
   exact .int _ _
  ·cases hv
 ·cases hv
theorem fcalls_calls {f : FuncId} {fn : Func} (hf : P.funcs[f]? = some fn) (hb : fn.body.isSome = true) (hname : (fn.name == "runtime.NumGoroutine") = false) {args : Array Value} {w : World} {R : Ending → World → Prop}
  (h:Calls P f args w R):FCalls P f args w R:=by
 obtain ⟨c,hb⟩:=Option.isSome_iff_exists.1 hb
 unfold FCalls
 have:(callFunc f args).run P w = .ok (.enter f args) w:=by
  have hn' : ¬ fn.name = "runtime.NumGoroutine" := by simpa using hname
  unfold callFunc
  simp [hf,hb,hn']
 rw [this]
 exact h
end
end Go.Proofs.YtgbheglnmdnkoaaGreatDoor.E
namespace Go.Proofs.YtgbheglnmdnkoaaGreatDoor.E
open Go Go.RowKit
section
variable {H : Type} {enc : TypeId × Value → H} {P : Program} {C : Cfg}

/-! ### arguments of plain data: what they look like, and that they stand for what the machine has -/

def sizeT (C : Cfg) (t : TypeId) : Nat := match C.ty t with | some ti => ti.size | none => 0

/-- what a value of plain data at a type looks like -/
def Sh (C : Cfg) : Nat → TypeId → AV → Prop
  | 0, _, _ => False
  | d + 1, t, x => match C.ty t with
    | some ⟨.bool, _, _, _, _⟩ => ∃ b, x = .bool b
    | some ⟨.int k, _, _, _, _⟩ => ∃ n, x = .int k n ∧ (Lit.int k n).wf = true
    | some ⟨.string, _, _, _, _⟩ => ∃ s, x = .str s ∧ s.length ≤ maxLen
    | some ⟨.slice e, _, _, _, _⟩ => x = .nilS ∨ ∃ xs, x = .lit (sizeT C e) .sealed xs ∧ xs.length ≤ maxLen ∧ ∀ y ∈ xs, Sh C d e y
    | some ⟨.struct fs, n, _, _, _⟩ => ∃ cs, x = .agg cs ∧ cs.length = n ∧ ∀ p ∈ fs, ∃ fi y, C.ty p.2 = some fi ∧ part fi cs p.1 = some y ∧ Sh C d p.2 y
    | some ⟨.array m e, n, _, _, _⟩ => ∃ cs, x = .agg cs ∧ cs.length = n ∧ ∀ i, i < m → ∃ ei y, C.ty e = some ei ∧ part ei cs (i * ei.size) = some y ∧ Sh C d e y
    | _ => False

/-- fields that lie one behind the other -/
def contig (C : Cfg) : Nat → List (Nat × TypeId) → Nat → Bool
  | o, [], n => o == n
  | o, (off, ft) :: fs, n => (off == o) && !(sizeT C ft == 0) && contig C (o + sizeT C ft) fs n

/-- is it a type of plain data? (slices: where they may stand) -/
def plainT (C : Cfg) : Bool → Nat → TypeId → Bool
  | _, 0, _ => false
  | sl, d + 1, t => match C.ty t with
    | some ⟨.bool, n, _, _, _⟩ => n == 1
    | some ⟨.int _, n, _, _, _⟩ => n == 1
    | some ⟨.string, n, _, _, _⟩ => n == 1
    | some ⟨.slice e, n, _, _, _⟩ => n == 1 && sl && !(sizeT C e == 0) && plainT C sl d e
    | some ⟨.struct fs, n, _, _, _⟩ => contig C 0 fs n && fs.all fun p => plainT C sl d p.2
    | some ⟨.array m e, n, _, _, _⟩ => m * sizeT C e == n && !(sizeT C e == 0) && plainT C sl d e
    | _ => false

/-- cells that stand for cells -/
def Cel (w : World) (ats : List AV) (vs : List Value) : Prop :=
  ats.length = vs.length ∧ ∀ (j : Nat) c v, ats[j]? = some c → vs[j]? = some v → c.one = true ∧ VR 0 (lay0 w) w c v

theorem Cel.nil {w : World} : Cel w [] [] := ⟨rfl, fun j c v h => by simp at h⟩
theorem Cel.one {w : World} {c : AV} {v : Value} (h1 : c.one = true) (h : VR 0 (lay0 w) w c v) : Cel w [c] [v] :=
  ⟨rfl, fun j c' v' hc hv => by
    cases j with
    | zero => simp at hc hv; subst hc hv; exact ⟨h1, h⟩
    | succ j => simp at hc⟩
theorem Cel.append {w : World} {a b : List AV} {c d : List Value} (h : Cel w a c) (k : Cel w b d) : Cel w (a ++ b) (c ++ d) :=
  ⟨by simp [h.1, k.1], fun j x v hx hv => by
    by_cases hj : j < a.length
    · rw [List.getElem?_append_left hj] at hx
      rw [List.getElem?_append_left (by rw [← h.1]; exact hj)] at hv
      exact h.2 j x v hx hv
    · rw [List.getElem?_append_right (by omega)] at hx
      rw [List.getElem?_append_right (by rw [← h.1]; omega), ← h.1] at hv
      exact k.2 _ x v hx hv⟩

/-- the slices that stand in cells begin at a cell -/
def Spots (vs : List Value) : Prop := ∀ v ∈ vs, ∀ a len cap, v = .slice (some a) len cap → a.spot = none

theorem tkOf_bool {d : TypeDesc} (h : TK.bool = tkOf d) : d = .bool := by cases d <;> simp [tkOf] at h ⊢
theorem tkOf_int {k : IntKind} {d : TypeDesc} (h : TK.int k = tkOf d) : d = .int k := by cases d <;> simp [tkOf] at h ⊢; exact h.symm
theorem tkOf_string {d : TypeDesc} (h : TK.string = tkOf d) : d = .string := by cases d <;> simp [tkOf] at h ⊢
theorem tkOf_slice {e : TypeId} {d : TypeDesc} (h : TK.slice e = tkOf d) : d = .slice e := by cases d <;> simp [tkOf] at h ⊢; exact h.symm
theorem tkOf_array {n : Nat} {e : TypeId} {d : TypeDesc} (h : TK.array n e = tkOf d) : d = .array n e := by cases d <;> simp [tkOf] at h ⊢; exact ⟨h.1.symm, h.2.symm⟩
theorem tkOf_struct {fs : List (Nat × TypeId)} {d : TypeDesc} (h : TK.struct fs = tkOf d) : ∃ gs, d = .struct gs ∧ fs = gs.toList.map fun f => (f.offset, f.type) := by
  cases d <;> simp [tkOf] at h
  exact ⟨_, rfl, h⟩

theorem size_cells (hT : TysOK P C) {t : TypeId} {ti : TI} (h : C.ty t = some ti) : P.cellsOf t = ti.size := by
  obtain ⟨i, d, z, h1, h2, h3, _⟩ := (hT t ti h).ex
  simp [Program.cellsOf, h1, h3]

/-- what an opened value's cells come to -/
def Fits (C : Cfg) (t : TypeId) (x : AV) : Prop := x.cells.length = sizeT C t ∧ ∀ ti, C.ty t = some ti → (ti.k.agg = true → ∃ c, x = .agg c) ∧ (ti.k.agg = false → x.one = true)

theorem Fits.part {t : TypeId} {x : AV} {ti : TI} (h : Fits C t x) (ht : C.ty t = some ti) (pre post : List AV) : E.part ti (pre ++ (x.cells ++ post)) pre.length = some x := by
  obtain ⟨h1, h2⟩ := h
  obtain ⟨h3, h4⟩ := h2 ti ht
  have hs : sizeT C t = ti.size := by simp [sizeT, ht]
  unfold E.part
  cases ha : ti.k.agg with
  | true =>
    obtain ⟨c, rfl⟩ := h3 ha
    simp only [AV.cells] at h1 ⊢
    rw [hs] at h1
    simp [h1.symm, cond_true rfl]
  | false =>
    have h5 := h4 ha
    rw [AV.cells_one h5, cond_false rfl, getAt_eq]
    simp

theorem contig_fields (hT : TysOK P C) {w : World} {d : Nat} {sl : Bool} : ∀ (fs : List (Nat × TypeId)) (o n : Nat) (cs : List Value), contig C o fs n = true → cs.length = n →
    (∀ p ∈ fs, ∃ x, Sh C d p.2 x ∧ Fits C p.2 x ∧ Cel w x.cells ((cs.drop p.1).take (sizeT C p.2))) →
    ∃ xs : List AV, Cel w xs (cs.drop o) ∧ ∀ (pre : List AV), pre.length = o → ∀ p ∈ fs, ∃ fi y, C.ty p.2 = some fi ∧ part fi (pre ++ xs) p.1 = some y ∧ Sh C d p.2 y
  | [], o, n, cs, hc, hl, _ => by
    simp only [contig, beq_iff_eq] at hc
    refine ⟨[], ?_, fun pre hp p h => by simp at h⟩
    rw [List.drop_eq_nil_of_le (by omega)]
    exact .nil
  | (off, ft) :: fs, o, n, cs, hc, hl, hf => by
    simp only [contig, Bool.and_eq_true, beq_iff_eq, Bool.not_eq_true', beq_eq_false_iff_ne, ne_eq] at hc
    obtain ⟨⟨rfl, h0⟩, hc⟩ := hc
    obtain ⟨x, h1, h2, h3⟩ := hf (off, ft) (by simp)
    obtain ⟨xs, k1, k2⟩ := contig_fields hT (sl := sl) fs (off + sizeT C ft) n cs hc hl fun p hp => hf p (by simp [hp])
    obtain ⟨fi, hfi⟩ : ∃ fi, C.ty ft = some fi := by
      cases hq : C.ty ft with
      | none => exact absurd (by simp [sizeT, hq]) h0
      | some fi => exact ⟨fi, rfl⟩
    refine ⟨x.cells ++ xs, ?_, fun pre hp p hpm => ?_⟩
    · have := h3.append k1
      rw [← List.drop_drop] at this
      rwa [List.take_append_drop] at this
    · rcases List.mem_cons.1 hpm with rfl | hpm
      · refine ⟨fi, x, hfi, ?_, h1⟩
        rw [← hp]
        exact h2.part hfi pre xs
      · have := k2 (pre ++ x.cells) (by rw [List.length_append, hp, h2.1]) p hpm
        rwa [List.append_assoc] at this

theorem contig_range {C : Cfg} {e : TypeId} (h0 : sizeT C e ≠ 0) : ∀ (m k : Nat), contig C (k * sizeT C e) ((List.range' k m).map fun i => (i * sizeT C e, e)) ((k + m) * sizeT C e) = true
  | 0, k => by simp [contig]
  | m + 1, k => by
    have ih := contig_range h0 m (k + 1)
    have e1 : k * sizeT C e + sizeT C e = (k + 1) * sizeT C e := by rw [Nat.add_mul, Nat.one_mul]
    have e2 : (k + (m + 1)) = (k + 1 + m) := by omega
    simp only [List.range'_succ, List.map_cons, contig, beq_self_eq_true, Bool.true_and, e1, e2, ih, Bool.and_true]
    simpa using h0

theorem cells_get {w : World} {base : Nat} {a : Addr} {n : Nat} {cs : List Value} (h : w.cells? base a n = some cs) : cs.length = n ∧ ∀ j v, cs[j]? = some v → w.cell? (a.add j) = some v := by
  unfold World.cells? at h
  split at h
  · have key : ∀ (l : List Nat) (cs : List Value), (l.mapM fun i => w.cell? (a.add i)) = some cs → cs.length = l.length ∧ ∀ (j : Nat) v, cs[j]? = some v → ∃ i, l[j]? = some i ∧ w.cell? (a.add i) = some v := by
      intro l
      induction l with
      | nil => intro cs h; simp at h; subst h; simp
      | cons i l ih =>
        intro cs h
        simp only [List.mapM_cons, Option.bind_eq_bind, Option.pure_def, Option.bind_eq_some_iff, Option.some.injEq] at h
        obtain ⟨v, hv, vs, hvs, rfl⟩ := h
        obtain ⟨g1, g2⟩ := ih vs hvs
        refine ⟨by simp [g1], fun j u hu => ?_⟩
        cases j with
        | zero => simp at hu; subst hu; exact ⟨i, rfl, hv⟩
        | succ j => simpa using g2 j u (by simpa using hu)
    obtain ⟨g1, g2⟩ := key _ _ h
    refine ⟨by simpa using g1, fun j v hv => ?_⟩
    obtain ⟨i, hi, hc⟩ := g2 j v hv
    have hlt := (List.getElem?_eq_some_iff.1 hi).1
    simp at hlt
    rw [List.getElem?_range hlt] at hi
    cases hi
    exact hc
  · cases h

theorem spot_none {w : World} {a : Addr} {k n : Nat} {cs : List Value} (hk : k = 0) (hn : 0 < n) (h : w.cells? 0 (a.add k) n = some cs) : a.spot = none := by
  obtain ⟨h1, h2⟩ := cells_get h
  obtain ⟨v, hv⟩ : ∃ v, cs[0]? = some v := ⟨_, List.getElem?_eq_getElem (by omega)⟩
  have := h2 0 v hv
  cases hs : a.spot with
  | none => rfl
  | some q =>
    exfalso
    have hq : ((a.add k).add 0).spot.isSome = true := by
      subst hk
      unfold Addr.add
      simp [hs]
    unfold World.cell? at this
    split at this
    · rw [if_pos hq] at this; cases this
    · cases this
/-- cells that are read as plain data at a type -/
theorem open_ok (hT : TysOK P C) {w : World} {sp : Nat → Bool} {held : Bool} (hsp : ∀ b, sp b = true) : ∀ (d : Nat) (sl : Bool) (fuel : Nat) (t : TypeId) (cs : List Value) (x : DataW H × List MemPlace), plainT C sl d t = true →
    DataW.trod enc P w 0 sp held fuel t cs = some x → ∃ y, Sh C d t y ∧ Fits C t y ∧ Cel w y.cells cs
  | 0, sl, fuel, t, cs, x, hp, _ => by cases hp
  | d + 1, sl, fuel, t, cs, x, hp, h => by
    cases hti : C.ty t with
    | none => simp [plainT, hti] at hp
    | some ti =>
      obtain ⟨i, dd, z, g1, g2, g3, g4, g5, -⟩ := (hT t ti hti).ex
      obtain ⟨k, n, by_, zz, q⟩ := ti
      have hsz : sizeT C t = n := by simp [sizeT, hti]
      have hcl : P.cellsOf t = n := size_cells hT hti
      dsimp only at g5
      cases k with
      | bool =>
        simp only [plainT, hti, beq_iff_eq] at hp
        subst hp
        rw [tkOf_bool g5] at g2
        obtain ⟨b, rfl, -⟩ := DataW.trod_bool g2 h
        exact ⟨.bool b, by simp only [Sh, hti]; exact ⟨b, rfl⟩, ⟨by rw [hsz]; rfl, fun ti hq => by rw [hti] at hq; cases hq; exact ⟨(fun h => by cases h), fun _ => rfl⟩⟩, .one rfl (.bool b)⟩
      | int k =>
        simp only [plainT, hti, beq_iff_eq] at hp
        subst hp
        rw [tkOf_int g5] at g2
        obtain ⟨m, rfl, -, hwf⟩ := DataW.trod_int g2 h
        exact ⟨.int k m, by simp only [Sh, hti]; exact ⟨m, rfl, hwf⟩, ⟨by rw [hsz]; rfl, fun ti hq => by rw [hti] at hq; cases hq; exact ⟨(fun h => by cases h), fun _ => rfl⟩⟩, .one rfl (.int k m)⟩
      | string =>
        simp only [plainT, hti, beq_iff_eq] at hp
        subst hp
        rw [tkOf_string g5] at g2
        obtain ⟨s, rfl, -, hwf⟩ := DataW.trod_string g2 h
        refine ⟨.str s.data.toList, by simp only [Sh, hti]; exact ⟨_, rfl, by simpa using hwf⟩, ⟨by rw [hsz]; rfl, fun ti hq => by rw [hti] at hq; cases hq; exact ⟨(fun h => by cases h), fun _ => rfl⟩⟩, .one rfl (.str _ s rfl)⟩
      | slice e =>
        simp only [plainT, hti, Bool.and_eq_true, beq_iff_eq, Bool.not_eq_true', beq_eq_false_iff_ne, ne_eq] at hp
        obtain ⟨⟨⟨rfl, -⟩, he0⟩, hpe⟩ := hp
        rw [tkOf_slice g5] at g2
        obtain ⟨ei, hei⟩ : ∃ ei, C.ty e = some ei := by
          cases hq : C.ty e with
          | none => exact absurd (by simp [sizeT, hq]) he0
          | some ei => exact ⟨ei, rfl⟩
        have hes : P.cellsOf e = sizeT C e := by rw [size_cells hT hei]; simp [sizeT, hei]
        rcases DataW.trod_slice g2 h with ⟨rfl, -⟩ | ⟨a, len, cap, elems, rest, m, -, rfl, -, hb, hlc, hcm, hel, hE, hR, -⟩
        · exact ⟨.nilS, by simp only [Sh, hti]; exact .inl trivial, ⟨by rw [hsz]; rfl, fun ti hq => by rw [hti] at hq; cases hq; exact ⟨(fun h => by cases h), fun _ => rfl⟩⟩, .one rfl .nilS⟩
        · by_cases hc0 : cap = 0
          · subst hc0
            obtain rfl : len = 0 := by omega
            exact ⟨.lit (sizeT C e) .sealed [], by simp only [Sh, hti]; exact .inr ⟨[], rfl, by simp, fun y hy => by cases hy⟩, ⟨by rw [hsz]; rfl, fun ti hq => by rw [hti] at hq; cases hq; exact ⟨(fun h => by cases h), fun _ => rfl⟩⟩, .one rfl (.lit0 _ _ a rfl)⟩
          have hspot : a.spot = none := by
            rcases Nat.eq_zero_or_pos len with hl0 | hl0
            · obtain ⟨hR1, hR2⟩ := hR (hsp _)
              have h1 := hR2 0 (by omega)
              obtain ⟨u, hu⟩ : ∃ u, rest[0]? = some u := ⟨_, List.getElem?_eq_getElem (by omega)⟩
              rw [hu, Option.bind_eq_some_iff] at h1
              obtain ⟨cs, hc1, _⟩ := h1
              exact spot_none (by rw [hl0]; simp) (by rw [hes]; omega) hc1
            · have h1 := hE 0 hl0
              obtain ⟨u, hu⟩ : ∃ u, elems[0]? = some u := ⟨_, List.getElem?_eq_getElem (by omega)⟩
              rw [hu, Option.bind_eq_some_iff] at h1
              obtain ⟨cs, hc1, _⟩ := h1
              exact spot_none (Nat.zero_mul _) (by rw [hes]; omega) hc1
          obtain ⟨rb, ro, spot⟩ := a
          dsimp only at hspot
          subst hspot
          have hadd : ∀ o k, (⟨rb, o, none⟩ : Addr).add k = ⟨rb, o + k, none⟩ := fun o k => by
            unfold Addr.add; split
            · rename_i hk; subst hk; rfl
            · rfl
          have each : ∀ i, i < len → ∃ y, Sh C d e y ∧ Fits C e y ∧ ∀ (j : Nat) c, y.cells[j]? = some c → c.one = true ∧ ∃ v, w.cell? ⟨rb, ro + (i * sizeT C e + j), none⟩ = some v ∧ VR 0 (lay0 w) w c v := fun i hi => by
            have h1 := hE i hi
            have h2 : ∃ u, elems[i]? = some u := ⟨_, List.getElem?_eq_getElem (by omega)⟩
            obtain ⟨u, hu⟩ := h2
            rw [hu, Option.bind_eq_some_iff] at h1
            obtain ⟨cs, hc1, hc2⟩ := h1
            obtain ⟨y, y1, y2, y3⟩ := open_ok hT hsp d sl m e cs u hpe hc2
            obtain ⟨q1, q2⟩ := cells_get hc1
            refine ⟨y, y1, y2, fun j c hj => ?_⟩
            have hlt := (List.getElem?_eq_some_iff.1 hj).1
            obtain ⟨v, hv⟩ : ∃ v, cs[j]? = some v := ⟨_, List.getElem?_eq_getElem (by rw [← y3.1]; exact hlt)⟩
            obtain ⟨r1, r2⟩ := y3.2 j c v hj hv
            have := q2 j v hv
            rw [hadd, hes] at this
            rw [hadd] at this
            exact ⟨r1, v, by rw [← Nat.add_assoc]; exact this, r2⟩
          obtain ⟨ys, l1, l2⟩ : ∃ ys : List AV, ys.length = len ∧ ∀ (i : Nat) y, ys[i]? = some y → Sh C d e y ∧ Fits C e y ∧ ∀ (j : Nat) c, y.cells[j]? = some c → c.one = true ∧ ∃ v, w.cell? ⟨rb, ro + (i * sizeT C e + j), none⟩ = some v ∧ VR 0 (lay0 w) w c v := by
            have := fun i : Fin len => each i.1 i.2
            refine ⟨List.ofFn fun i : Fin len => (this i).choose, by simp, fun i y hy => ?_⟩
            have hlt := (List.getElem?_eq_some_iff.1 hy).1
            simp at hlt
            rw [List.getElem?_ofFn, dif_pos hlt] at hy
            cases hy
            exact (this ⟨i, hlt⟩).choose_spec
          have hsizes : ∀ y ∈ ys, y.cells.length = sizeT C e := fun y hy => by
            obtain ⟨i, hi⟩ := List.getElem?_of_mem hy
            exact (l2 i y hi).2.1.1
          have fl : ∀ (j : Nat) c, (flat ys)[j]? = some c → c.one = true ∧ ∃ v, w.cell? ⟨rb, ro + j, none⟩ = some v ∧ VR 0 (lay0 w) w c v := fun j c hj => by
            have hlt := (List.getElem?_eq_some_iff.1 hj).1
            rw [flat_length ys hsizes] at hlt
            have hdiv : j / sizeT C e < ys.length := Nat.div_lt_of_lt_mul (by rw [Nat.mul_comm]; exact hlt)
            obtain ⟨y, hy⟩ : ∃ y, ys[j / sizeT C e]? = some y := ⟨_, List.getElem?_eq_getElem hdiv⟩
            have hmod := Nat.mod_lt j (Nat.pos_of_ne_zero he0)
            have hg := flat_get ys hsizes _ y hy (j % sizeT C e) hmod
            have e1 : j / sizeT C e * sizeT C e + j % sizeT C e = j := Nat.div_add_mod' _ _
            rw [e1, hj] at hg
            have := (l2 _ y hy).2.2 _ c hg.symm
            rwa [e1] at this
          refine ⟨.lit (sizeT C e) .sealed ys, by simp only [Sh, hti]; exact .inr ⟨ys, rfl, by omega, fun y hy => by
            obtain ⟨i, hi⟩ := List.getElem?_of_mem hy
            exact (l2 i y hi).1⟩, ⟨by rw [hsz]; rfl, fun ti hq => by rw [hti] at hq; cases hq; exact ⟨(fun h => by cases h), fun _ => rfl⟩⟩, .one rfl ?_⟩
          have := VR.lit (n := 0) (L := lay0 w) (w := w) (sizeT C e) .sealed ys rb ro cap (fun j => (w.cell? ⟨rb, ro + j, none⟩).getD default) (by omega) hsizes (fun j hj => by
              obtain ⟨c, hc⟩ : ∃ c, (flat ys)[j]? = some c := ⟨_, List.getElem?_eq_getElem (by rw [flat_length ys hsizes]; exact hj)⟩
              obtain ⟨_, v, hv, _⟩ := fl j c hc
              exact ⟨by rw [hv]; rfl, imm0 hv⟩) (fun j c hc => (fl j c hc).1) (fun j c hc => by
              obtain ⟨_, v, hv, hr⟩ := fl j c hc
              rw [hv]; exact hr) trivial
          rw [l1] at this
          exact this
      | struct fs =>
        simp only [plainT, hti, Bool.and_eq_true, List.all_eq_true] at hp
        obtain ⟨hc, hf⟩ := hp
        obtain ⟨gs, hgs, hfs⟩ := tkOf_struct g5
        rw [hgs] at g2
        obtain ⟨xs, m, -, -, hlen, hxl, hx⟩ := DataW.trod_struct g2 h
        rw [hcl] at hlen
        obtain ⟨ys, k1, k2⟩ := contig_fields hT (w := w) (d := d) (sl := sl) fs 0 n cs hc hlen fun p hp => by
          rw [hfs] at hp
          obtain ⟨f, hfm, rfl⟩ := List.mem_map.1 hp
          obtain ⟨i, hi⟩ := List.getElem?_of_mem hfm
          have hi' : gs[i]? = some f := by simpa using hi
          have h1 := hx i f hi'
          obtain ⟨u, hu⟩ : ∃ u, xs[i]? = some u := ⟨_, List.getElem?_eq_getElem (by rw [hxl]; exact (Array.getElem?_eq_some_iff.1 hi').1)⟩
          rw [hu] at h1
          have hpt := hf (f.offset, f.type) (by rw [hfs]; exact List.mem_map.2 ⟨f, hfm, rfl⟩)
          have hce : P.cellsOf f.type = sizeT C f.type := by
            cases hq : C.ty f.type with
            | none =>
              exfalso
              cases d with
              | zero => cases hpt
              | succ d => simp [plainT, hq] at hpt
            | some fi => rw [size_cells hT hq]; simp [sizeT, hq]
          rw [hce] at h1
          exact open_ok hT hsp d sl m f.type _ u hpt h1
        rw [List.drop_zero] at k1
        refine ⟨.agg ys, by simp only [Sh, hti]; exact ⟨ys, rfl, by rw [k1.1, hlen], fun p hp => k2 [] rfl p hp⟩, ⟨by rw [hsz]; show ys.length = n; rw [k1.1, hlen], fun ti hq => by rw [hti] at hq; cases hq; exact ⟨fun _ => ⟨ys, rfl⟩, (fun h => by cases h)⟩⟩, k1⟩
      | array m e =>
        simp only [plainT, hti, Bool.and_eq_true, beq_iff_eq, Bool.not_eq_true', beq_eq_false_iff_ne, ne_eq] at hp
        obtain ⟨⟨hn, he0⟩, hpe⟩ := hp
        rw [tkOf_array g5] at g2
        obtain ⟨ei, hei⟩ : ∃ ei, C.ty e = some ei := by
          cases hq : C.ty e with
          | none => exact absurd (by simp [sizeT, hq]) he0
          | some ei => exact ⟨ei, rfl⟩
        have hse : sizeT C e = ei.size := by simp [sizeT, hei]
        have hes : P.cellsOf e = sizeT C e := by rw [size_cells hT hei, hse]
        obtain ⟨xs, m', -, -, hlen, hxl, hx⟩ := DataW.trod_array g2 h
        rw [hcl] at hlen
        obtain ⟨ys, k1, k2⟩ := contig_fields hT (w := w) (d := d) (sl := sl) ((List.range' 0 m).map fun i => (i * sizeT C e, e)) 0 n cs (by have := contig_range (C := C) he0 m 0; rw [Nat.zero_mul, Nat.zero_add, hn] at this; exact this) hlen fun p hp => by
          obtain ⟨i, hi, rfl⟩ := List.mem_map.1 hp
          have hi : i < m := by simpa using (List.mem_range'_1.1 hi).2
          have h1 := hx i hi
          obtain ⟨u, hu⟩ : ∃ u, xs[i]? = some u := ⟨_, List.getElem?_eq_getElem (by rw [hxl]; exact hi)⟩
          rw [hu, hes] at h1
          exact open_ok hT hsp d sl m' e _ u hpe h1
        rw [List.drop_zero] at k1
        refine ⟨.agg ys, by
          simp only [Sh, hti]
          refine ⟨ys, rfl, by rw [k1.1, hlen], fun i hi => ?_⟩
          obtain ⟨fi, y, q1, q2, q3⟩ := k2 [] rfl (i * sizeT C e, e) (List.mem_map.2 ⟨i, List.mem_range'_1.2 ⟨by omega, by omega⟩, rfl⟩)
          rw [hei] at q1
          cases q1
          exact ⟨ei, y, hei, by rw [← hse]; exact q2, q3⟩, ⟨by rw [hsz]; show ys.length = n; rw [k1.1, hlen], fun ti hq => by rw [hti] at hq; cases hq; exact ⟨fun _ => ⟨ys, rfl⟩, (fun h => by cases h)⟩⟩, k1⟩
      | _ => simp [plainT, hti] at hp

theorem spot_of {w : World} {r : Reach} {b : Nat} {u : TypeId} {a : Addr} {len cap : Nat} (hu : Cell.okWide P w r b u (.slice (some a) len cap)) : a.spot = none := by
  unfold Cell.okWide Cell.ok at hu
  cases hq : P.underlying u with
  | none => rw [hq] at hu; exact hu.elim
  | some dd =>
    rw [hq] at hu
    cases dd <;> first
      | exact hu.elim
      | exact hu.2.2.2.1

theorem spots_of_cells {w : World} {r : Reach} {b : Nat} {vs : List Value} (h : ∀ v ∈ vs, ∃ u, Cell.okWide P w r b u v) : Spots vs := fun v hv a len cap e => by
  obtain ⟨u, hu⟩ := h v hv
  subst e
  exact spot_of hu

theorem no_agg {w : World} {r : Reach} {b : Nat} {u : TypeId} {cs : Array Value} (hu : Cell.okWide P w r b u (.agg cs)) : False := by
  unfold Cell.okWide Cell.ok at hu
  cases hq : P.underlying u with
  | none => rw [hq] at hu; exact hu.elim
  | some dd =>
    rw [hq] at hu
    cases dd <;> exact hu.elim

/-- an argument's cells -/
theorem arg_cells {w : World} {r : Reach} {b : Nat} {t : TypeId} {v : Value} {dd : TypeDesc} (hd : P.underlying t = some dd) (hval : Value.okWide P w r b t v) :
    Spots v.cells.toList ∧ (((tkOf dd).agg = true ∧ ∃ cs, v = .agg cs) ∨ ((tkOf dd).agg = false ∧ v.cells.toList = [v])) := by
  have row : ∀ cs : Array Value, Row.okWide P w r b t cs → Spots cs.toList := fun cs hc => by
    obtain ⟨ts, _, _, hc⟩ := hc
    refine spots_of_cells (P := P) (w := w) (r := r) (b := b) fun v hv => ?_
    obtain ⟨i, hi⟩ := List.getElem?_of_mem hv
    obtain ⟨u, _, hu⟩ := hc i v (by simpa using hi)
    exact ⟨u, hu⟩
  have cell : Cell.okWide P w r b t v → Spots v.cells.toList ∧ v.cells.toList = [v] := fun hu => by
    have : v.cells.toList = [v] := by
      cases v <;> first | rfl | exact (no_agg hu).elim
    rw [this]
    exact ⟨spots_of_cells (P := P) (w := w) (r := r) (b := b) fun u hq => by simp at hq; subst hq; exact ⟨t, hu⟩, rfl⟩
  unfold Value.okWide at hval
  rw [hd] at hval
  cases dd <;> first
    | (obtain ⟨cs, rfl, _, hc⟩ := hval; exact ⟨row cs hc, .inl ⟨rfl, cs, rfl⟩⟩)
    | (obtain ⟨h1, h2⟩ := cell hval; exact ⟨h1, .inr ⟨rfl, h2⟩⟩)

/-- an argument of plain data -/
theorem open_arg (hT : TysOK P C) {w : World} {held : Bool} {r : Reach} {b : Nat} {t : TypeId} {v : Value} {dd : DataW H} {ps : List MemPlace} (d : Nat) (hp : plainT C true d t = true)
    (hval : Value.okWide P w r b t v) (h : DataW.Trod enc P w 0 (fun _ => true) held t v dd ps) : ∃ y, Sh C d t y ∧ VR 0 (lay0 w) w y v := by
  obtain ⟨fuel, h⟩ := h
  obtain ⟨ti, hti⟩ : ∃ ti, C.ty t = some ti := by
    cases hq : C.ty t with
    | none => cases d with
      | zero => cases hp
      | succ d => simp [plainT, hq] at hp
    | some ti => exact ⟨ti, rfl⟩
  obtain ⟨i, dx, z, g1, g2, g3, g4, g5, -⟩ := (hT t ti hti).ex
  obtain ⟨-, hag⟩ := arg_cells g2 hval
  obtain ⟨y, y1, y2, y3⟩ := open_ok hT (fun _ => rfl) d true fuel t _ _ hp h
  refine ⟨y, y1, ?_⟩
  obtain ⟨q1, q2⟩ := y2.2 ti hti
  rcases hag with ⟨ha, cs, rfl⟩ | ⟨ha, hv⟩
  · obtain ⟨c, rfl⟩ := q1 (by rw [g5]; exact ha)
    have e1 : (Value.agg cs).cells.toList = cs.toList := rfl
    have e2 : (AV.agg c).cells = c := rfl
    rw [e1, e2] at y3
    have hl : cs.size = c.length := by simpa using y3.1.symm
    have get : ∀ (j : Nat) x, c[j]? = some x → cs.toList[j]? = some (cs.getD j default) := fun j x hj => by
      have hlt := (List.getElem?_eq_some_iff.1 hj).1
      rw [← hl] at hlt
      simp [Array.getD, hlt]
    exact .agg c cs hl (fun j x hj => (y3.2 j x _ hj (get j x hj)).1) (fun j x hj => (y3.2 j x _ hj (get j x hj)).2)
  · have h1 := q2 (by rw [g5]; exact ha)
    rw [AV.cells_one h1, hv] at y3
    exact (y3.2 0 y v rfl rfl).2
end
theorem sentinel_vr {w:World} {g tp:Nat} {a:Addr} {s:ByteArray} {text:List UInt8} (h1:w.cell? ⟨g,0,none⟩=some (.iface tp (.pointer (some a)))) (h2:w.cell? a=some (.string s)) (hs:s.data.toList=text) :
  VR 0 (lay0 w) w (.rop (.iface tp (.rop (.agg [.str text])))) (.pointer (some ⟨g,0,none⟩)):=by
 have hspot:=World.cell?_spot h2
 obtain ⟨b,o,spot⟩:=a
 dsimp only at hspot
 subst hspot
 have inner:VR 0 (lay0 w) w (.rop (.agg [.str text])) (.pointer (some ⟨b,o,none⟩)):=by
  refine .rop _ b o (fun _ => .string s) (fun j hj => ?_) (fun j c hc => ?_) (fun j c hc => ?_)
  ·have:j=0:=by simp [AV.cells] at hj;exact hj
   subst this
   exact ⟨h2,imm0 h2⟩
  ·cases j with
   | zero=>simp [AV.cells] at hc;subst hc;rfl
   | succ j=>simp [AV.cells] at hc
  ·cases j with
   | zero=>simp [AV.cells] at hc;subst hc;exact .str _ s hs
   | succ j=>simp [AV.cells] at hc
 refine .rop _ g 0 (fun _ => .iface tp (.pointer (some ⟨b,o,none⟩))) (fun j hj => ?_) (fun j c hc => ?_) (fun j c hc => ?_)
 ·have:j=0:=by simp [AV.cells] at hj;exact hj
  subst this
  exact ⟨h1,imm0 h1⟩
 ·cases j with
  | zero=>simp [AV.cells] at hc;subst hc;rfl
  | succ j=>simp [AV.cells] at hc
 ·cases j with
  | zero=>simp [AV.cells] at hc;subst hc;exact .iface _ _ _ inner
  | succ j=>simp [AV.cells] at hc
end Go.Proofs.YtgbheglnmdnkoaaGreatDoor.E
namespace Go.Proofs.YtgbheglnmdnkoaaGreatDoor.E
open Go Go.RowKit Go.Lib
section
variable {P:Program} {C:Cfg}
end
section
variable {P:Program} {C:Cfg} {call:CallF} {fl:Nat} {me:FuncId}
def bodyAt (C:Cfg) (f:FuncId) (r:Nat):Code:=match C.code f with
 | some fi=>(loopAt r fi.body).getD .skip
 | none => .skip
def flAt (C:Cfg) (f:FuncId) (fl:Nat) (hp:List Blk):Nat:=match C.kind f with | .pure=>hp.length | .new=>hp.length | _=>fl
def tailE (C:Cfg) (f:FuncId) (hp hpF:List Blk) (rs:List AV):Option (AV × List Blk):=match C.kind f with
 | .pure=>match shutV hpF hp.length 100000 (one rs) with
  | some v=>some (v,hp)
  | none=>none
 | .mut=>bif !cloH hp.length (hpF.take hp.length) then none else
  match shutV hpF hp.length 100000 (one rs) with
  | some v=>some (v,hpF.take hp.length)
  | none=>none
 | .keep=>some (one rs,hpF)
 | .new=>some (one rs,hpF)
theorem tail_keep {f:FuncId} {hp hpF:List Blk} {rs:List AV} (hk:C.kind f = .keep):tailE C f hp hpF rs=some (one rs,hpF):=by unfold tailE;rw [hk]
theorem tail_new {f:FuncId} {hp hpF:List Blk} {rs:List AV} (hk:C.kind f = .new):tailE C f hp hpF rs=some (one rs,hpF):=by unfold tailE;rw [hk]
theorem tail_pure {f:FuncId} {hp hpF:List Blk} {rs:List AV} {v:AV} (hk:C.kind f = .pure) (hs:shutV hpF hp.length 100000 (one rs)=some v):tailE C f hp hpF rs=some (v,hp):=by unfold tailE;rw [hk];simp only [hs]
theorem tail_mut {f:FuncId} {hp hpF hp':List Blk} {rs:List AV} {v:AV} (hk:C.kind f = .mut) (ht:hpF.take hp.length=hp') (hc:cloH hp.length hp'=true) (hs:shutV hpF hp.length 100000 (one rs)=some v):tailE C f hp hpF rs=some (v,hp'):=by
 unfold tailE;rw [hk];subst ht;simp only [hs,hc,Bool.not_true,cond_false rfl]
theorem blk_set {hp:List Blk} {b:Nat} {cs:List AV} (h:b < hp.length):blkCells (setAt hp b (.cells cs)) b=some cs:=by
 unfold blkCells;rw [setAt_eq,getAt_eq,List.getElem?_set_self h]
theorem blk_set_ne {hp:List Blk} {b c:Nat} {x:Blk} {cs:List AV} (hn:c≠b) (h:blkCells hp b=some cs):blkCells (setAt hp c x) b=some cs:=by
 unfold blkCells at *;rw [setAt_eq,getAt_eq,List.getElem?_set_ne hn,← getAt_eq];exact h
theorem blk_last {hp:List Blk} {cs:List AV} {rest:List Blk}:blkCells (hp ++ .cells cs::rest) hp.length=some cs:=by
 unfold blkCells;rw [getAt_eq,List.getElem?_append_right (Nat.le_refl _),Nat.sub_self];rfl
theorem getAt_app {hp:List Blk} {b:Nat} {x:Blk} {rest:List Blk} (h:getAt hp b=some x):getAt (hp++rest) b=some x:=by
 rw [getAt_eq] at *;obtain ⟨h1,h2⟩:=List.getElem?_eq_some_iff.1 h;rw [List.getElem?_append_left h1];exact h
theorem blk_app {hp:List Blk} {b:Nat} {cs:List AV} {rest:List Blk} (h:blkCells hp b=some cs):blkCells (hp++rest) b=some cs:=by
 unfold blkCells at *
 split at h
 ·rename_i c hc;cases h;rw [getAt_app hc]
 ·cases h
theorem blk_lt {hp:List Blk} {b:Nat} {cs:List AV} (h:blkCells hp b=some cs):b < hp.length:=by
 unfold blkCells at h
 split at h
 ·rename_i c hc;rw [getAt_eq] at hc;exact (List.getElem?_eq_some_iff.1 hc).1
 ·cases h
theorem setAt_length {α:Type} (l:List α) (i:Nat) (x:α):(setAt l i x).length=l.length:=by rw [setAt_eq];simp
def ldC (C:Cfg) (t:TypeId) (cs:List AV) (off:Nat):Option AV:=match C.ty t with
 | some ti=>part ti cs off
 | none=>none
theorem load_ok {t:TypeId} {b off:Nat} {hp:List Blk} {cs:List AV} {x:AV} (h:blkCells hp b=some cs) (hx:ldC C t cs off=some x):∀ ts,loadAt C ⟨ts,hp⟩ t (.v (.ptr b off))=some ⟨.v x,ts,hp, .hb b⟩:=by
 intro ts;unfold loadAt;unfold ldC at hx
 split at hx
 ·rename_i ti ht;simp only [ht,h,hx,Option.map_some]
 ·cases hx
def stC (C:Cfg) (t:TypeId) (cs:List AV) (off:Nat) (x:AV):Option (List AV):=match C.ty t with
 | some ti=>bif x.cells.length==ti.size&&x.noTup&&decide (off + ti.size≤cs.length) then some (splice cs off x.cells) else none
 | none=>none
theorem store_ok {t:TypeId} {b off fl:Nat} {hp hp':List Blk} {cs cs':List AV} {x:AV} (h:blkCells hp b=some cs) (hx:stC C t cs off x=some cs') (hf:fl≤b)
  (hh:setAt hp b (.cells cs')=hp'):∀ ts,storeAt C fl ⟨ts,hp⟩ t (.v (.ptr b off)) x=some ⟨.sk,ts,hp', .hw⟩:=by
 intro ts;unfold storeAt;unfold stC at hx;subst hh
 split at hx
 ·rename_i ti ht
  cases hc:(x.cells.length==ti.size&&x.noTup&&decide (off + ti.size≤cs.length)) with
  | false=>rw [hc] at hx;cases hx
  | true =>
   rw [hc,cond_true rfl] at hx
   cases hx
   simp only [Bool.and_eq_true] at hc
   simp only [ht,h,hc.1.1,hc.1.2,hc.2,decide_eq_true hf,Bool.not_true,Bool.or_false,Bool.and_true,cond_false rfl,cond_true rfl]
 ·cases hx
theorem wrap_i64 {n:Int} (h : -9223372036854775808≤n) (h':n≤9223372036854775807):IntKind.wrap .i64 n=n:=by
 unfold IntKind.wrap;simp [IntKind.bits,IntKind.signed];omega
theorem wrap_u64 {n:Int} (h:0≤n) (h':n < 18446744073709551616):IntKind.wrap .u64 n=n:=by
 unfold IntKind.wrap;simp [IntKind.bits,IntKind.signed];omega
def isStr (C:Cfg) (t:TypeId):Bool:=match C.ty t with
 | some ⟨.string,_,_,_,_⟩=>true
 | _=>false
theorem isStr_ty {t:TypeId} (h:isStr C t=true):∃ a b c d,C.ty t=some ⟨.string,a,b,c,d⟩:=by
 unfold isStr at h
 split at h
 ·rename_i a b c d e;exact ⟨a,b,c,d,e⟩
 ·cases h
theorem index_str {t:TypeId} {s:List UInt8} {n:Int} {c:UInt8} (ht:isStr C t=true) (h0:0≤n) (h:s[n.toNat]?=some c):indexE C t (.str s) n=some (.int .u8 c.toNat):=by
 obtain ⟨a1,a2,a3,a4,ht⟩:=isStr_ty ht
 unfold indexE
 rw [decide_eq_false (by omega),cond_false rfl]
 simp only [ht,getAt_eq,h,Option.map_some]
end
end Go.Proofs.YtgbheglnmdnkoaaGreatDoor.E
namespace Go.Proofs.YtgbheglnmdnkoaaGreatDoor.E
open Go Go.RowKit Go.Lib
variable {P:Program} {C:Cfg} {fl:Nat} {me:FuncId}
def LeC (c d:CallF):Prop:=∀ f a h r,c f a h=some r→d f a h=some r
theorem LeC.refl (c:CallF):LeC c c:=fun _ _ _ _ h=>h
theorem callE_mono {c d:CallF} (h:LeC c d) {st:St} {f:FuncId} {args:List AV} {r:Res} (e:callE C c st f args=some r):callE C d st f args=some r:=by
 unfold callE at *
 split at e
 ·rename_i v hp hv;rw [h _ _ _ _ hv];exact e
 ·cases e
theorem evOp_mono {c d:CallF} (h:LeC c d) {o:Oper} {st:St} {r:Res} (e:evOp C c fl me o st=some r):evOp C d fl me o st=some r:=by
 obtain ⟨dst,op,guard⟩:=o
 cases op <;> try exact e
 case makeMap t hint=>cases hint <;> exact e
 rename_i cl
 unfold evOp at *
 dsimp only at *
 split at e
 ·cases e
 ·rename_i args ha
  split at e
  ·exact e
  ·rename_i f hf
   split at e
   ·exact callE_mono h e
   ·cases e
  ·cases e
theorem evOne_mono {c d:CallF} (h:LeC c d) {ops:List Oper} {o:Oper} {st:St} {r:St × Fp} (e:evOne C c fl me ops o st=some r):evOne C d fl me ops o st=some r:=by
 unfold evOne at *
 split at e
 ·split at e
  ·rename_i q hq
   rw [evOp_mono h hq];exact e
  ·cases e
 ·exact e
 ·cases e
theorem runOps_mono {c d:CallF} (h:LeC c d) {ops:List Oper}:∀ (l:List Oper) (st:St) (r:St × List Fp),runOps C c fl me ops l st=some r→runOps C d fl me ops l st=some r
 | [],st,r,e=>e
 | o::l,st,r,e=>by
  unfold runOps at *
  split at e
  ·rename_i st1 f h1
   rw [evOne_mono h h1]
   split at e
   ·rename_i st' fps h2
    simp only [runOps_mono h l st1 _ h2];exact e
   ·cases e
  ·cases e
theorem evLoop_mono {b b':St→Option (Ex × St)} {cl:St→St} (h:∀ st r,b st=some r→b' st=some r):∀ (k k':Nat) (st:St) (r:Ex × St),k≤k'→evLoop b cl k st=some r→evLoop b' cl k' st=some r
 | 0,_,_,_,_,e=>by cases e
 | k + 1,0,_,_,hk,_=>by omega
 | k + 1,k' + 1,st,r,hk,e=>by
  unfold evLoop at *
  split at e
  ·rename_i st' h1
   rw [h _ _ h1];exact evLoop_mono h k k' st' r (by omega) e
  ·rename_i hne
   have:=h _ _ e
   rw [this]
   obtain ⟨x,s⟩:=r
   cases x
   ·exact absurd e (hne s)
   ·rfl
   ·rfl
theorem evLoopC_mono {b b':St→Option (Ex × St)} {cl:St→St} (h:∀ st r,b st=some r→b' st=some r):∀ (k k':Nat) (st:St) (r:Ex × St),k≤k'→evLoopC b cl k st=some r→evLoopC b' cl k' st=some r
 | 0,_,_,_,_,e=>by cases e
 | k + 1,0,_,_,hk,_=>by omega
 | k + 1,k' + 1,st,r,hk,e=>by
  unfold evLoopC at *
  split at e
  ·rename_i st' h1
   rw [h _ _ h1];exact evLoopC_mono h k k' _ r (by omega) e
  ·rename_i hne
   have:=h _ _ e
   rw [this]
   obtain ⟨x,s⟩:=r
   cases x
   ·exact absurd e (hne s)
   ·rfl
   ·rfl
theorem run_mono {c d:CallF} (h:LeC c d) {k k':Nat} (hk:k≤k'):∀ (x:Code) (st:St) (r:Ex × St),run C c fl me k x st=some r→run C d fl me k' x st=some r
 | .skip,st,r,e=>e
 | .exit id,st,r,e=>e
 | .ret,st,r,e=>e
 | .region id ops draw,st,r,e=>by
  simp only [run] at *
  split at e
  ·rename_i st' fps h1
   rw [runOps_mono h _ _ _ h1];exact e
  ·cases e
 | .seq x y,st,r,e=>by
  simp only [run] at *
  split at e
  ·rename_i st' h1
   rw [run_mono h hk x st _ h1];exact run_mono h hk y st' r e
  ·rename_i hne
   rw [run_mono h hk x st _ e]
   obtain ⟨q,s⟩:=r
   cases q
   ·exact absurd e (hne s)
   ·rfl
   ·rfl
 | .cond t x y,st,r,e=>by
  simp only [run] at *
  split at e
  ·rename_i b hb
   cases b
   ·exact run_mono h hk y st r e
   ·exact run_mono h hk x st r e
  ·cases e
 | .block id x,st,r,e=>by
  simp only [run] at *
  split at e
  ·rename_i j st' h1
   rw [run_mono h hk x st _ h1];exact e
  ·rename_i hne
   rw [run_mono h hk x st _ e]
   obtain ⟨q,s⟩:=r
   cases q
   ·rfl
   ·exact absurd e (hne _ s)
   ·rfl
 | .loop x,st,r,e=>by
  simp only [run] at *
  split at e
  ·rename_i q st' h1
   rw [evLoop_mono (fun st r=>run_mono h hk x st r) _ _ _ _ hk h1];exact e
  ·cases e
 | .rangeFunc ..,st,r,e=>by simp [run] at e
 | .scope ..,st,r,e=>by simp [run] at e
 | .label ..,st,r,e=>by simp [run] at e
 | .goto ..,st,r,e=>by simp [run] at e
 | .refuse ..,st,r,e=>by simp [run] at e
theorem evCall_succ:∀ (k:Nat) (fl:Nat),LeC (evCall C k fl) (evCall C (k + 1) fl)
 | 0,fl=>fun f a h r e=>by cases e
 | k + 1,fl=>fun f args hp r e=>by
  unfold evCall at e ⊢
  split at e
  ·exact e
  split at e
  ·exact e
  ·rename_i he
   split at e
   ·exact e
   ·rename_i fi hfi
    dsimp only at *
    split at e
    ·cases e
    ·rename_i e' st hne hr
     have h2:=run_mono (evCall_succ k _) (Nat.le_succ k) _ _ _ hr
     rw [h2]
     cases e' with
     | exit j=>exact absurd rfl (hne j)
     | normal=>exact e
     | ret=>exact e
    ·cases e
theorem evCall_mono {k k' fl:Nat} (h:k≤k'):LeC (evCall C k fl) (evCall C k' fl):=by
 induction h with
 | refl=>exact LeC.refl _
 | step _ ih=>exact fun f a h r e=>evCall_succ _ _ _ _ _ _ (ih _ _ _ _ e)
open Classical in
noncomputable def evI (C:Cfg) (fl:Nat):CallF:=fun f a h=>if H:∃ k r,evCall C k fl f a h=some r then evCall C H.choose fl f a h else none
theorem evI_of {k fl:Nat} {f:FuncId} {a:List AV} {h:List Blk} {r:AV × List Blk} (e:evCall C k fl f a h=some r):evI C fl f a h=some r:=by
 have H:∃ k r,evCall C k fl f a h=some r:=⟨k,r,e⟩
 unfold evI
 rw [dif_pos H]
 obtain ⟨r',h'⟩:=H.choose_spec
 rcases Nat.le_total k H.choose with hh | hh
 ·exact evCall_mono hh _ _ _ _ e
 ·have:=evCall_mono hh _ _ _ _ h'
  rw [e] at this;rw [h'];exact this.symm
theorem evI_to {fl:Nat} {f:FuncId} {a:List AV} {h:List Blk} {r:AV × List Blk} (e:evI C fl f a h=some r):∃ k,∀ k',k≤k'→evCall C k' fl f a h=some r:=by
 unfold evI at e
 split at e
 ·rename_i H
  exact ⟨H.choose,fun k' hk=>evCall_mono hk _ _ _ _ e⟩
 ·cases e
theorem evOp_lim {o:Oper} {st:St} {r:Res} (e:evOp C (evI C fl) fl me o st=some r):∃ k,∀ k',k≤k'→evOp C (evCall C k' fl) fl me o st=some r:=by
 obtain ⟨dst,op,guard⟩:=o
 cases op <;> try exact ⟨0,fun _ _=>e⟩
 case makeMap t hint=>cases hint <;> exact ⟨0,fun _ _=>e⟩
 rename_i cl
 unfold evOp at *
 dsimp only at *
 split at e
 ·cases e
 ·rename_i args ha
  split at e
  ·exact ⟨0,fun _ _=>e⟩
  ·rename_i f hf
   split at e
   ·rename_i g fi ca hg
    unfold callE at e ⊢
    split at e
    ·rename_i v hp hv
     obtain ⟨k,hk⟩:=evI_to hv
     exact ⟨k,fun k' h'=>by rw [hk k' h'];exact e⟩
    ·cases e
   ·cases e
  ·cases e
theorem evOne_lim {ops:List Oper} {o:Oper} {st:St} {r:St × Fp} (e:evOne C (evI C fl) fl me ops o st=some r):∃ k,∀ k',k≤k'→evOne C (evCall C k' fl) fl me ops o st=some r:=by
 unfold evOne at *
 split at e
 ·split at e
  ·rename_i q hq
   obtain ⟨k,hk⟩:=evOp_lim hq
   exact ⟨k,fun k' h'=>by rw [hk k' h'];exact e⟩
  ·cases e
 ·exact ⟨0,fun _ _=>e⟩
 ·cases e
theorem runOps_lim {ops:List Oper}:∀ (l:List Oper) (st:St) (r:St × List Fp),runOps C (evI C fl) fl me ops l st=some r→∃ k,∀ k',k≤k'→runOps C (evCall C k' fl) fl me ops l st=some r
 | [],st,r,e=>⟨0,fun _ _=>e⟩
 | o::l,st,r,e=>by
  unfold runOps at *
  split at e
  ·rename_i st1 f h1
   obtain ⟨k,hk⟩:=evOne_lim h1
   split at e
   ·rename_i st' fps h2
    obtain ⟨k2,hk2⟩:=runOps_lim l st1 _ h2
    exact ⟨max k k2,fun k' h'=>by rw [hk k' (by omega)];simp only [hk2 k' (by omega)];exact e⟩
   ·cases e
  ·cases e
theorem evLoop_lim {b:St→Option (Ex × St)} {b':Nat→St→Option (Ex × St)} {cl:St→St} (h:∀ st r,b st=some r→∃ k,∀ k',k≤k'→b' k' st=some r):∀ (n:Nat) (st:St) (r:Ex × St),evLoop b cl n st=some r→∃ k,∀ k',k≤k'→evLoop (b' k') cl n st=some r
 | 0,_,_,e=>by cases e
 | n + 1,st,r,e=>by
  unfold evLoop at *
  split at e
  ·rename_i st' h1
   obtain ⟨k,hk⟩:=h _ _ h1
   obtain ⟨k2,hk2⟩:=evLoop_lim h n st' r e
   exact ⟨max k k2,fun k' h'=>by rw [hk k' (by omega)];exact hk2 k' (by omega)⟩
  ·rename_i hne
   obtain ⟨k,hk⟩:=h _ _ e
   refine ⟨k,fun k' h' => ?_⟩
   rw [hk k' h']
   obtain ⟨x,s⟩:=r
   cases x
   ·exact absurd e (hne s)
   ·rfl
   ·rfl
theorem run_lim {n:Nat}:∀ (x:Code) (st:St) (r:Ex × St),run C (evI C fl) fl me n x st=some r→∃ k,∀ k',k≤k'→run C (evCall C k' fl) fl me n x st=some r
 | .skip,st,r,e=>⟨0,fun _ _=>e⟩
 | .exit id,st,r,e=>⟨0,fun _ _=>e⟩
 | .ret,st,r,e=>⟨0,fun _ _=>e⟩
 | .region id ops draw,st,r,e=>by
  simp only [run] at *
  split at e
  ·rename_i st' fps h1
   obtain ⟨k,hk⟩:=runOps_lim _ _ _ h1
   exact ⟨k,fun k' h'=>by rw [hk k' h'];exact e⟩
  ·cases e
 | .seq x y,st,r,e=>by
  simp only [run] at *
  split at e
  ·rename_i st' h1
   obtain ⟨k,hk⟩:=run_lim x st _ h1
   obtain ⟨k2,hk2⟩:=run_lim y st' r e
   exact ⟨max k k2,fun k' h'=>by rw [hk k' (by omega)];exact hk2 k' (by omega)⟩
  ·rename_i hne
   obtain ⟨k,hk⟩:=run_lim x st _ e
   refine ⟨k,fun k' h' => ?_⟩
   rw [hk k' h']
   obtain ⟨q,s⟩:=r
   cases q
   ·exact absurd e (hne s)
   ·rfl
   ·rfl
 | .cond t x y,st,r,e=>by
  simp only [run] at *
  split at e
  ·rename_i b hb
   cases b
   ·exact run_lim y st r e
   ·exact run_lim x st r e
  ·cases e
 | .block id x,st,r,e=>by
  simp only [run] at *
  split at e
  ·rename_i j st' h1
   obtain ⟨k,hk⟩:=run_lim x st _ h1
   exact ⟨k,fun k' h'=>by rw [hk k' h'];exact e⟩
  ·rename_i hne
   obtain ⟨k,hk⟩:=run_lim x st _ e
   refine ⟨k,fun k' h' => ?_⟩
   rw [hk k' h']
   obtain ⟨q,s⟩:=r
   cases q
   ·rfl
   ·exact absurd e (hne _ s)
   ·rfl
 | .loop x,st,r,e=>by
  simp only [run] at *
  split at e
  ·rename_i q st' h1
   obtain ⟨k,hk⟩:=evLoop_lim (b':=fun k'=>run C (evCall C k' fl) fl me n x) (fun st r=>run_lim x st r) _ _ _ h1
   exact ⟨k,fun k' h'=>by rw [hk k' h'];exact e⟩
  ·cases e
 | .rangeFunc ..,st,r,e=>by simp [run] at e
 | .scope ..,st,r,e=>by simp [run] at e
 | .label ..,st,r,e=>by simp [run] at e
 | .goto ..,st,r,e=>by simp [run] at e
 | .refuse ..,st,r,e=>by simp [run] at e
def RunK (C:Cfg) (fl:Nat) (me:FuncId) (x:Code) (st:St) (e:Ex) (st':St):Prop:=∃ n,run C (evI C fl) fl me n x st=some (e,st')
def LoopI (C:Cfg) (fl:Nat) (me:FuncId) (b:Code) (r:Nat) (st:St) (e:Ex) (st':St):Prop:=∃ n,loopN C (evI C fl) fl me n b r n st=some (e,st')
noncomputable def runQ (C:Cfg) (fl:Nat) (me:FuncId) (π:List (Nat × Nat × Ora)):Code→St→Option (Ex × St × List Prop)
 | .skip,st=>some (.normal,st,[])
 | .region id ops draw,st=>match runOpsP C (evI C fl) fl me ops.toList π id 0 ops.toList st with
  | some (st',fps,φs)=>bif !draw||noClash fps (C.pairs me id) then some (.normal,st',φs) else none
  | none=>none
 | .seq a b,st=>match runQ C fl me π a st with
  | some (.normal,st',φs)=>match runQ C fl me π b st' with
   | some (e,st'',ψs)=>some (e,st'',φs++ψs)
   | none=>none
  | r=>r
 | .cond c a b,st=>match opv C st.tmps c with
  | some (.bool t)=>bif t then runQ C fl me π a st else runQ C fl me π b st
  | _=>none
 | .block id b,st=>match runQ C fl me π b st with
  | some (.exit j,st',φs)=>bif Nat.beq j id then some (.normal,st',φs) else some (.exit j,st',φs)
  | r=>r
 | .loop b,st=>match find2 (firstReg b) 1000000 π with
  | some (.loop e st')=>some (e,st',[LoopI C fl me b (firstReg b) (cleanSt (C.loop me (firstReg b)) st) e st'])
  | _=>none
 | .exit id,st=>some (.exit id,st,[])
 | .ret,st=>some (.ret,st,[])
 | _,_=>none
theorem runQ_ok {π:List (Nat × Nat × Ora)}:∀ (c:Code) (st st':St) (e:Ex) (φs:List Prop),runQ C fl me π c st=some (e,st',φs)→allP φs→RunK C fl me c st e st'
 | .skip,st,st',e,φs,h,_=>by simp only [runQ,Option.some.injEq,Prod.mk.injEq] at h;obtain ⟨rfl,rfl,_⟩:=h;exact ⟨0,rfl⟩
 | .exit id,st,st',e,φs,h,_=>by simp only [runQ,Option.some.injEq,Prod.mk.injEq] at h;obtain ⟨rfl,rfl,_⟩:=h;exact ⟨0,rfl⟩
 | .ret,st,st',e,φs,h,_=>by simp only [runQ,Option.some.injEq,Prod.mk.injEq] at h;obtain ⟨rfl,rfl,_⟩:=h;exact ⟨0,rfl⟩
 | .region id ops draw,st,st',e,φs,h,hφ=>by
  simp only [runQ] at h
  split at h
  ·rename_i st1 fps ψ h1
   cases hb:(!draw||noClash fps (C.pairs me id)) with
   | false=>rw [hb] at h;cases h
   | true =>
    rw [hb,cond_true rfl] at h
    cases h
    exact ⟨0,by simp only [run,runOpsP_ok _ 0 st st' fps φs h1 hφ,hb,cond_true rfl]⟩
  ·cases h
 | .seq x y,st,st',e,φs,h,hφ=>by
  simp only [runQ] at h
  split at h
  ·rename_i st1 ψ h1
   split at h
   ·rename_i e2 st2 χ h2
    cases h
    obtain ⟨g1,g2⟩:=allP_append.1 hφ
    obtain ⟨n,hn⟩:=runQ_ok x st st1 .normal ψ h1 g1
    obtain ⟨m,hm⟩:=runQ_ok y st1 st' e χ h2 g2
    refine ⟨max n m, ?_⟩
    simp only [run,run_mono (LeC.refl _) (Nat.le_max_left n m) x st _ hn]
    exact run_mono (LeC.refl _) (Nat.le_max_right n m) y st1 _ hm
   ·cases h
  ·rename_i hne
   obtain ⟨n,hn⟩:=runQ_ok x st st' e φs h hφ
   refine ⟨n, ?_⟩
   simp only [run,hn]
   cases e with
   | normal=>exact absurd h (hne st' φs)
   | exit id=>rfl
   | ret=>rfl
 | .cond c x y,st,st',e,φs,h,hφ=>by
  simp only [runQ] at h
  split at h
  ·rename_i t ht
   cases t with
   | true=>obtain ⟨n,hn⟩:=runQ_ok x st st' e φs h hφ;exact ⟨n,by simp only [run,ht];exact hn⟩
   | false=>obtain ⟨n,hn⟩:=runQ_ok y st st' e φs h hφ;exact ⟨n,by simp only [run,ht];exact hn⟩
  ·cases h
 | .block id x,st,st',e,φs,h,hφ=>by
  simp only [runQ] at h
  split at h
  ·rename_i j st1 ψ h1
   cases hj:Nat.beq j id with
   | true =>
    rw [hj,cond_true rfl] at h;cases h
    have:(j==id)=true:=by simpa using Nat.eq_of_beq_eq_true hj
    obtain ⟨n,hn⟩:=runQ_ok x st st' (.exit j) φs h1 hφ
    exact ⟨n,by simp only [run,hn,this,cond_true rfl]⟩
   | false =>
    rw [hj,cond_false rfl] at h;cases h
    have:(j==id)=false:=by simpa using Nat.ne_of_beq_eq_false hj
    obtain ⟨n,hn⟩:=runQ_ok x st st' (.exit j) φs h1 hφ
    exact ⟨n,by simp only [run,hn,this,cond_false rfl]⟩
  ·rename_i hne
   obtain ⟨n,hn⟩:=runQ_ok x st st' e φs h hφ
   refine ⟨n, ?_⟩
   simp only [run,hn]
   cases e with
   | normal=>rfl
   | exit j=>exact absurd h (hne j st' φs)
   | ret=>rfl
 | .loop x,st,st',e,φs,h,hφ=>by
  simp only [runQ] at h
  split at h
  ·cases h
   obtain ⟨n,hφ⟩:=(allP_cons.1 hφ).1
   unfold loopN at hφ
   simp only [Option.map_eq_some_iff,Prod.mk.injEq] at hφ
   obtain ⟨p,h1,h2,h3⟩:=hφ
   obtain ⟨e',st0⟩:=p
   dsimp only at h2 h3
   subst h2
   exact ⟨n,by simp only [run,evLoopC_ok,h1,h3]⟩
  ·cases h
 | .rangeFunc ..,st,st',e,φs,h,_=>by simp [runQ] at h
 | .scope ..,st,st',e,φs,h,_=>by simp [runQ] at h
 | .label ..,st,st',e,φs,h,_=>by simp [runQ] at h
 | .goto ..,st,st',e,φs,h,_=>by simp [runQ] at h
 | .refuse ..,st,st',e,φs,h,_=>by simp [runQ] at h
structure Ask where
 i:Nat
 j:Nat
 o:Ora
 p:Prop
 h:p
def Ask.key (a:Ask):Nat × Nat × Ora:=(a.i,a.j,a.o)
theorem allP_ask:∀ π:List Ask,allP (π.map Ask.p)
 | []=>trivial
 | a::l=>allP_cons.2 ⟨a.h,allP_ask l⟩
noncomputable def runW' (C:Cfg) (fl:Nat) (π:List (Nat × Nat × Ora)) (f:FuncId) (args:List AV) (hp:List Blk):Option (List AV × List Blk × List Prop) :=
 match C.memo f args with
 | some _=>none
 | none=>match C.ext f with
 | some _=>none
 | none=>match C.code f with
  | none=>none
  | some fi=>match runQ C fl f π fi.body ⟨args.map .v++List.replicate (fi.ntmps - args.length) .sk,hp⟩ with
   | some (.exit _,_)=>none
   | some (_,st,φs)=>match resultsE C st fi.results with
    | none=>none
    | some rs=>some (rs,st.hp,φs)
   | none=>none
def unone:AV→List AV
 | .tup vs=>vs
 | v=>[v]
theorem evXr {fl:Nat} {f:FuncId} {args:List AV} {hp:List Blk} {R:Option (AV × List Blk)} {r:AV × List Blk} (rs:List AV) (hpF:List Blk) (π:List Ask)
  (h:runW' C (flAt C f fl hp) (π.map Ask.key) f args hp=some (rs,hpF,π.map Ask.p)) (ht:tailE C f hp hpF rs=some r) (hr:some r=R):evI C fl f args hp=R:=by
 subst hr
 unfold runW' at h
 split at h
 ·cases h
 rename_i hmm
 split at h
 ·cases h
 ·rename_i he
  split at h
  ·cases h
  ·rename_i fi hfi
   split at h
   ·cases h
   ·rename_i e st ψ hne hr
    split at h
    ·cases h
    ·rename_i rs' hrs
     simp only [Option.some.injEq,Prod.mk.injEq] at h
     obtain ⟨rfl,rfl,rfl⟩:=h
     obtain ⟨n,hn⟩:=runQ_ok _ _ _ _ _ hr (allP_ask π)
     obtain ⟨k,hk⟩:=run_lim _ _ _ hn
     have hR:=run_mono (evCall_mono (Nat.le_max_right n k)) (Nat.le_max_left n k) _ _ _ (hk k (Nat.le_refl _))
     refine evI_of (k:=max n k + 1) ?_
     unfold evCall
     rw [hmm]
     dsimp only
     rw [he]
     dsimp only
     rw [hfi]
     dsimp only
     unfold flAt at hR
     unfold tailE at ht
     cases hkd:C.kind f <;> simp only [hkd] at hR ht ⊢ <;> rw [hR] <;> cases e <;> first | exact absurd rfl (hne _) | (simp only [hrs];exact ht)
   ·cases h
theorem evX {fl:Nat} {f:FuncId} {args:List AV} {hp:List Blk} {R:Option (AV × List Blk)} {r:AV × List Blk} (v:AV) (hpF:List Blk) (π:List Ask)
  (h:runW' C (flAt C f fl hp) (π.map Ask.key) f args hp=some (unone v,hpF,π.map Ask.p)) (ht:tailE C f hp hpF (unone v)=some r) (hr:some r=R):evI C fl f args hp=R:=evXr _ hpF π h ht hr
theorem evX1 {fl:Nat} {f:FuncId} {args:List AV} {hp:List Blk} {R:Option (AV × List Blk)} {r:AV × List Blk} (v:AV) (hpF:List Blk) (π:List Ask)
  (h:runW' C (flAt C f fl hp) (π.map Ask.key) f args hp=some ([v],hpF,π.map Ask.p)) (ht:tailE C f hp hpF [v]=some r) (hr:some r=R):evI C fl f args hp=R:=evXr _ hpF π h ht hr
theorem loopStep {b:Code} {r:Nat} {st st1 st2 st':St} {e:Ex} (π:List Ask) (h:runQ C fl me (π.map Ask.key) b st=some (.normal,st1,π.map Ask.p)) (hc:cleanSt (C.loop me r) st1=st2)
  (hn:LoopI C fl me b r st2 e st'):LoopI C fl me b r st e st':=by
 subst hc
 obtain ⟨n,hn1⟩:=runQ_ok _ _ _ _ _ h (allP_ask π)
 obtain ⟨m,hm⟩:=hn
 unfold loopN at hm
 simp only [Option.map_eq_some_iff] at hm
 obtain ⟨q,h1,h2⟩:=hm
 refine ⟨max n m + 1, ?_⟩
 unfold loopN
 have hb:∀ st r,run C (evI C fl) fl me m b st=some r→run C (evI C fl) fl me (max n m + 1) b st=some r:=fun st r=>run_mono (LeC.refl _) (by omega) b st r
 rw [show evLoopC (run C (evI C fl) fl me (max n m + 1) b) (cleanSt (C.loop me r)) (max n m + 1) st=some q from ?_,← h2];rfl
 have h3:=run_mono (LeC.refl _) (by omega:n≤max n m + 1) b st _ hn1
 show (match run C (evI C fl) fl me (max n m + 1) b st with
  | some (.normal,st')=>evLoopC (run C (evI C fl) fl me (max n m + 1) b) (cleanSt (C.loop me r)) (max n m) (cleanSt (C.loop me r) st')
  | r=>r)=some q
 rw [h3]
 exact evLoopC_mono hb m _ _ _ (by omega) h1
theorem loopEnd {b:Code} {r:Nat} {st st1 st':St} {e:Ex} (π:List Ask) (h:runQ C fl me (π.map Ask.key) b st=some (e,st1,π.map Ask.p)) (hc:cleanSt (C.after me r) st1=st') (he:e ≠ .normal) :
  LoopI C fl me b r st e st':=by
 subst hc
 obtain ⟨n,hn1⟩:=runQ_ok _ _ _ _ _ h (allP_ask π)
 refine ⟨n + 1, ?_⟩
 unfold loopN
 have h3:=run_mono (LeC.refl _) (by omega:n≤n + 1) b st _ hn1
 rw [show evLoopC (run C (evI C fl) fl me (n + 1) b) (cleanSt (C.loop me r)) (n + 1) st=some (e,st1) from ?_];rfl
 show (match run C (evI C fl) fl me (n + 1) b st with
  | some (.normal,st')=>evLoopC (run C (evI C fl) fl me (n + 1) b) (cleanSt (C.loop me r)) n (cleanSt (C.loop me r) st')
  | r=>r)=some (e,st1)
 rw [h3]
 cases e with
 | normal=>exact absurd rfl he
 | exit _=>rfl
 | ret=>rfl
@[reducible] def AI (n:Int):AV := .int .i64 n
@[reducible] def J:TV := .junk
@[reducible] def BC (cs:List AV):Blk := .cells cs
namespace Ask
def b (i j:Nat) {c v:Bool} (h:c=v):Ask:=⟨i,j, .val (.bool v),some (AV.bool c)=some (AV.bool v),by rw [h]⟩
def w (i j:Nat) (k:IntKind) (n:Int) {x:Int} (h:x=n):Ask:=⟨i,j, .val (.int k n),some (AV.int k x)=some (AV.int k n),by rw [h]⟩
def wc (i j:Nat) (k:IntKind) (n:Int) (hp:List Blk) {x:Int} (h:x=n):Ask:=⟨i,j, .mem (.int k n) hp .z,∀ ts:List TV,some (Res.mk (.v (.int k x)) ts hp .z)=some (Res.mk (.v (.int k n)) ts hp .z),fun ts=>by rw [h]⟩
def v (i j:Nat) {x:Option AV} {a:AV} (h:x=some a):Ask:=⟨i,j, .val a,x=some a,h⟩
def a (i j:Nat) {x:Option TV} {a:AV} (h:x=some (.v a)):Ask:=⟨i,j, .val a,x=some (.v a),h⟩
def c (i j:Nat) {C:Cfg} {fl:Nat} {g:FuncId} {args:List AV} {hp hp':List Blk} {v:AV} (h:evI C fl g args hp=some (v,hp')):Ask:=⟨i,j, .res v hp',evI C fl g args hp=some (v,hp'),h⟩
def l (r:Nat) {C:Cfg} {fl:Nat} {me:FuncId} {b:Code} {r':Nat} {st st':St} {e:Ex} (h:LoopI C fl me b r' st e st'):Ask:=⟨r,1000000, .loop e st',LoopI C fl me b r' st e st',h⟩
def m (i j:Nat) {x:List TV→Option Res} {v:AV} {hp:List Blk} {fp:Fp} (h:∀ ts,x ts=some ⟨.v v,ts,hp,fp⟩):Ask:=⟨i,j, .mem v hp fp,∀ ts,x ts=some ⟨.v v,ts,hp,fp⟩,h⟩
def s (i j:Nat) {x:List TV→Option AV} {v:AV} (hp:List Blk) (fp:Fp) (h:∀ ts,x ts=some v):Ask:=⟨i,j, .mem v hp fp,(∀ ts,x ts=some v)∧hp=hp∧fp=fp,⟨h,rfl,rfl⟩⟩
def t (i j:Nat) {x:List TV→Option Res} {hp:List Blk} {fp:Fp} (h:∀ ts,x ts=some ⟨.sk,ts,hp,fp⟩):Ask:=⟨i,j, .sto hp fp,∀ ts,x ts=some ⟨.sk,ts,hp,fp⟩,h⟩
def lb (i j:Nat) (hp:List Blk) (sl:Nat) {c v:Bool} (h:c=v):Ask:=⟨i,j, .mem (.bool v) hp (.lr sl),some (AV.bool c)=some (AV.bool v)∧hp=hp∧Fp.lr sl=Fp.lr sl,by rw [h];exact ⟨rfl,rfl,rfl⟩⟩
def cb (i j:Nat) {C:Cfg} {fl:Nat} {g:FuncId} {args:List AV} {hp hp':List Blk} {c v:Bool} (h:evI C fl g args hp=some (.bool c,hp')) (e:c=v):Ask:=⟨i,j, .res (.bool v) hp',evI C fl g args hp=some (.bool v,hp'),e ▸ h⟩
def vb (i j:Nat) {x:Option AV} {c v:Bool} (h:x=some (.bool c)) (e:c=v):Ask:=⟨i,j, .val (.bool v),x=some (.bool v),e ▸ h⟩
end Ask
theorem bcases (b:Bool):b=true∨b=false:=by cases b <;> simp
theorem wrap_i64' {n:Int} (h : -9223372036854775808≤n∧n≤9223372036854775807):IntKind.wrap .i64 n=n:=wrap_i64 h.1 h.2
theorem wrap_u64' {n:Int} (h:0≤n∧n < 18446744073709551616):IntKind.wrap .u64 n=n:=wrap_u64 h.1 h.2
def isSlcT (C:Cfg) (t:TypeId) (sz:Nat):Bool:=match C.ty t with
 | some ⟨.slice e,_,_,_,_⟩=>(match C.ty e with | some ei=>sz==ei.size | none=>false)
 | _=>false
theorem indexAddr_arr {t:TypeId} {sz b off len:Nat} {n:Int} (ht:isSlcT C t sz=true) (h0:0≤n) (h:n < len):indexAddr C t (.v (.arr sz b off len)) n=some (.v (.ptr b (off + n.toNat * sz))):=by
 unfold isSlcT at ht
 split at ht
 ·rename_i e _ _ _ _ h1
  split at ht
  ·rename_i ei h2
   unfold indexAddr
   rw [decide_eq_false (by omega),cond_false rfl]
   simp only [h1,h2,ht,decide_eq_true h,Bool.and_self,cond_true rfl]
  ·cases ht
 ·cases ht
theorem indexAddr_lit {t:TypeId} {sz:Nat} {own:Own} {xs:List AV} {n:Int} {x:AV} (ht:isSlcT C t sz=true) (h0:0≤n) (h:xs[n.toNat]?=some x):indexAddr C t (.v (.lit sz own xs)) n=some (.v (.rop x)):=by
 unfold isSlcT at ht
 split at ht
 ·rename_i e _ _ _ _ h1
  split at ht
  ·rename_i ei h2
   unfold indexAddr
   rw [decide_eq_false (by omega),cond_false rfl]
   simp only [h1,h2,ht,cond_true rfl,getAt_eq,h,Option.map_some]
  ·cases ht
 ·cases ht
theorem tlK {f:FuncId} {hp hpF:List Blk} {v:AV} (hk:C.kind f = .keep) (ho:one (unone v)=v):tailE C f hp hpF (unone v)=some (v,hpF):=by rw [tail_keep hk,ho]
theorem tlN {f:FuncId} {hp hpF:List Blk} {v:AV} (hk:C.kind f = .new) (ho:one (unone v)=v):tailE C f hp hpF (unone v)=some (v,hpF):=by rw [tail_new hk,ho]
theorem tlP {f:FuncId} {hp hpF:List Blk} {v v':AV} (hk:C.kind f = .pure) (ho:one (unone v)=v) (hs:shutV hpF hp.length 100000 v=some v'):tailE C f hp hpF (unone v)=some (v',hp):=tail_pure hk (by rw [ho];exact hs)
theorem tlP1 {f:FuncId} {hp hpF:List Blk} {v v':AV} (hk:C.kind f = .pure) (hs:shutV hpF hp.length 100000 v=some v'):tailE C f hp hpF [v]=some (v',hp):=tail_pure hk hs
theorem tlM {f:FuncId} {hp hpF hp':List Blk} {v v':AV} (hk:C.kind f = .mut) (ho:one (unone v)=v) (ht:hpF.take hp.length=hp') (hc:cloH hp.length hp'=true) (hs:shutV hpF hp.length 100000 v=some v'):tailE C f hp hpF (unone v)=some (v',hp'):=tail_mut hk ht hc (by rw [ho];exact hs)
theorem bneU {x y:UInt8} (h:¬ x=y):((x.toNat:Int)==(y.toNat:Int))=false:=by
 rw [beq_eq_false_iff_ne];intro e;exact h (UInt8.toNat_inj.1 (by omega))
theorem bneUL {x:UInt8} (y:UInt8) {n:Int} (hy:(y.toNat:Int)=n) (h:¬ x=y):((x.toNat:Int)==n)=false:=by subst hy;exact bneU h
theorem shutT {hp:List Blk} {n:Nat} {v v':AV} (h:shutV hp n 100000 v=some v'):shutV hp n 100000 v=some v':=h
def LoopS (C:Cfg) (fl:Nat) (me:FuncId) (b:Code) (r:Nat) (st st2:St):Prop:=∀ e st',LoopI C fl me b r st2 e st'→LoopI C fl me b r st e st'
noncomputable def runC (C:Cfg) (fl:Nat) (me:FuncId) (r:Nat) (π:List (Nat × Nat × Ora)) (b:Code) (st:St):Option (Ex × St × List Prop) :=
 match runQ C fl me π b st with
 | some (.normal,st1,φs)=>some (.normal,cleanSt (C.loop me r) st1,φs)
 | some (e,st1,φs)=>some (e,cleanSt (C.after me r) st1,φs)
 | none=>none
theorem runC_n {r:Nat} {π:List (Nat × Nat × Ora)} {b:Code} {st st2:St} {φs:List Prop} (h:runC C fl me r π b st=some (.normal,st2,φs)):∃ st1,runQ C fl me π b st=some (.normal,st1,φs)∧cleanSt (C.loop me r) st1=st2:=by
 unfold runC at h
 split at h
 ·rename_i st1 ψ h1;cases h;exact ⟨st1,h1,rfl⟩
 ·rename_i e st1 ψ hne h1;cases h;exact (hne rfl).elim
 ·cases h
theorem runC_e {r:Nat} {π:List (Nat × Nat × Ora)} {b:Code} {st st2:St} {e:Ex} {φs:List Prop} (he:e ≠ .normal) (h:runC C fl me r π b st=some (e,st2,φs)):∃ st1,runQ C fl me π b st=some (e,st1,φs)∧cleanSt (C.after me r) st1=st2:=by
 unfold runC at h
 split at h
 ·cases h;exact absurd rfl he
 ·rename_i e' st1 ψ hne h1;cases h;exact ⟨st1,h1,rfl⟩
 ·cases h
theorem loopStepS {b:Code} {r:Nat} {st st3:St} (st2:St) (π:List Ask) (h:runC C fl me r (π.map Ask.key) b st=some (.normal,st2,π.map Ask.p)) (hq:st2=st3):LoopS C fl me b r st st3:=by
 subst hq
 obtain ⟨st1,h1,h2⟩:=runC_n h
 exact fun _ _ hn=>loopStep π h1 h2 hn
theorem loopStepC {b:Code} {r:Nat} {st st' st3:St} {e e3:Ex} (st2:St) (π:List Ask) (h:runC C fl me r (π.map Ask.key) b st=some (.normal,st2,π.map Ask.p))
  (hn:LoopI C fl me b r st2 e st') (hq:(e,st')=(e3,st3)):LoopI C fl me b r st e3 st3:=by
 cases hq
 obtain ⟨st1,h1,h2⟩:=runC_n h
 exact loopStep π h1 h2 hn
theorem loopEndC {b:Code} {r:Nat} {st st3:St} {e3:Ex} (e1:Ex) (st2:St) (π:List Ask) (h:runC C fl me r (π.map Ask.key) b st=some (e1,st2,π.map Ask.p)) (he:e1 ≠ .normal) (hq:(e1,st2)=(e3,st3)) :
  LoopI C fl me b r st e3 st3:=by
 cases hq
 obtain ⟨st1,h1,h2⟩:=runC_e he h
 exact loopEnd π h1 h2 he
end Go.Proofs.YtgbheglnmdnkoaaGreatDoor.E
namespace Go.Proofs.YtgbheglnmdnkoaaGreatDoor.E
open Go Go.RowKit Go.Lib
section
variable {C:Cfg}
theorem blk_last' {hp:List Blk} {n:Nat} {cs:List AV} {rest:List Blk} (h:hp.length=n):blkCells (hp ++ .cells cs::rest) n=some cs:=h ▸ blk_last
def IsSl (sz:Nat) (x:AV) (vs:List AV):Prop:=(x = .nilS∧vs=[])∨∃ o,x = .lit sz o vs
theorem IsSl.nil (sz:Nat):IsSl sz .nilS [] := .inl ⟨rfl,rfl⟩
theorem IsSl.lit (sz:Nat) (o:Own) (vs:List AV):IsSl sz (.lit sz o vs) vs := .inr ⟨o,rfl⟩
def isSlc0 (C:Cfg) (t:TypeId):Bool:=match C.ty t with
 | some ⟨.slice _,_,_,_,_⟩=>true
 | _=>false
theorem len_sl {t:TypeId} {ts':List TypeId} {fl:Nat} {ar:Bool} {sz:Nat} {x:AV} {vs:List AV} {hp:List Blk} (h:IsSl sz x vs) (ht:isSlc0 C t=true):∀ ts,builtinE C fl ar ⟨ts,hp⟩ .len (t::ts') [x]=some ⟨.v (.int .i64 (vs.length:Int)),ts,hp, .z⟩:=by
 intro ts
 unfold isSlc0 at ht
 split at ht
 ·rename_i e _ _ _ _ h1
  rcases h with ⟨rfl,rfl⟩ | ⟨o,rfl⟩ <;> simp [builtinE,lenE,h1,slcLen,ofO]
 ·cases ht
theorem indexAddr_sl {t:TypeId} {sz:Nat} {x:AV} {vs:List AV} {n:Int} {v:AV} (h:IsSl sz x vs) (ht:isSlcT C t sz=true) (h0:0≤n) (hv:vs[n.toNat]?=some v):indexAddr C t (.v x) n=some (.v (.rop v)):=by
 rcases h with ⟨rfl,rfl⟩ | ⟨o,rfl⟩
 ·simp at hv
 ·exact indexAddr_lit ht h0 hv
def FrC (S:List Nat) (hp hp':List Blk):Prop:=hp.length≤hp'.length∧∀ b cs,b ∉ S→blkCells hp b=some cs→blkCells hp' b=some cs
theorem FrC.refl (S:List Nat) (hp:List Blk):FrC S hp hp:=⟨Nat.le_refl _,fun _ _ _ h=>h⟩
theorem FrC.trans {S:List Nat} {a b c:List Blk} (h:FrC S a b) (g:FrC S b c):FrC S a c:=⟨Nat.le_trans h.1 g.1,fun x cs hx hc=>g.2 x cs hx (h.2 x cs hx hc)⟩
theorem FrC.mono {S T:List Nat} {a b:List Blk} (h:FrC S a b) (hs:∀ x ∈ S,x ∈ T):FrC T a b:=⟨h.1,fun x cs hx hc=>h.2 x cs (fun hh=>hx (hs x hh)) hc⟩
theorem FrC.app (S:List Nat) (hp l:List Blk):FrC S hp (hp++l):=⟨by simp,fun _ _ _ h=>blk_app h⟩
theorem FrC.set {S:List Nat} {hp:List Blk} {b:Nat} {x:Blk} (h:b ∈ S):FrC S hp (setAt hp b x) :=
 ⟨by rw [setAt_length];exact Nat.le_refl _,fun c cs hc hb=>blk_set_ne (fun e=>hc (e ▸ h)) hb⟩
theorem FrC.setFam {S:List Nat} {hp:List Blk} {b:Nat} {x:Blk} (h:blkCells hp b=none):FrC S hp (setAt hp b x) :=
 ⟨by rw [setAt_length];exact Nat.le_refl _,fun c cs _ hb=>blk_set_ne (fun e=>by subst e;rw [h] at hb;cases hb) hb⟩
def Gr (fl sz:Nat) (hp:List Blk) (x:AV) (vs:List AV):Prop:=(x = .nilS∧vs=[])∨∃ g,x = .lit sz (.fam g 0) vs∧getAt hp g=some (.fam vs.length)∧fl≤g
theorem Gr.nil (fl sz:Nat) (hp:List Blk):Gr fl sz hp .nilS [] := .inl ⟨rfl,rfl⟩
theorem Gr.isSl {fl sz:Nat} {hp:List Blk} {x:AV} {vs:List AV} (h:Gr fl sz hp x vs):IsSl sz x vs:=by
 rcases h with ⟨rfl,rfl⟩ | ⟨g,rfl,_⟩
 ·exact .nil _
 ·exact .lit _ _ _
def elT (C:Cfg) (t:TypeId) (sz bytes:Nat):Bool:=match C.ty t with
 | some ⟨.slice e,_,_,_,_⟩=>(match C.ty e with | some ei=>ei.size==sz&&ei.bytes==bytes && !(sz==0) && !(bytes==0) | none=>false)
 | _=>false
theorem elT_ty {t:TypeId} {sz bytes:Nat} (h:elT C t sz bytes=true):∃ e a b c d ei,C.ty t=some ⟨.slice e,a,b,c,d⟩∧C.ty e=some ei∧ei.size=sz∧ei.bytes=bytes∧sz≠0∧bytes≠0:=by
 unfold elT at h
 split at h
 ·rename_i e a b c d h1
  split at h
  ·rename_i ei h2
   simp at h
   obtain ⟨⟨⟨h3,h4⟩,h5⟩,h6⟩:=h
   exact ⟨e,a,b,c,d,ei,h1,h2,h3,h4,h5,h6⟩
  ·cases h
 ·cases h
theorem append_gr {fl sz bytes:Nat} {hp:List Blk} {x y:AV} {vs ws:List AV} {t:TypeId} (h:Gr fl sz hp x vs) (hy:elems hp sz y=some ws) (ht:elT C t sz bytes=true) (hw:ws≠[]) (hl:(vs.length + ws.length) * bytes≤140737488355328) (hf:fl≤hp.length) :
  ∃ x' hp',(∀ ts,builtinE C fl false ⟨ts,hp⟩ .append [t,t] [x,y]=some ⟨.v x',ts,hp',bif isArr y then .hw else .fw⟩)∧Gr fl sz hp' x' (vs++ws)∧FrC [] hp hp':=by
 obtain ⟨e,a,b,c,d,ei,h1,h2,rfl,rfl,h5,h6⟩:=elT_ty ht
 have hk:(ws.length==0)=false:=by simpa using hw
 have k5:(ei.size==0)=false:=by simpa using h5
 have k6:(ei.bytes==0)=false:=by simpa using h6
 rcases h with ⟨rfl,rfl⟩ | ⟨g,rfl,h3,h4⟩
 ·refine ⟨.lit ei.size (.fam hp.length 0) ws,hp++[.fam ws.length],fun ts => ?_, .inr ⟨hp.length,by simp, ?_,hf⟩, .app _ _ _⟩
  ·simp only [List.length_nil,Nat.zero_add] at hl
   have n1:elems hp ei.size .nilS=some []:=rfl
   have n2:isArr .nilS=false:=rfl
   have n3:isSlc .nilS=true:=rfl
   simp [builtinE,appendE,appElems,h1,h2,hy,hl,k5,k6,hk,n1,n2,n3]
  ·rw [getAt_eq,List.getElem?_append_right (Nat.le_refl _),Nat.sub_self];simp
 ·refine ⟨.lit ei.size (.fam g 0) (vs++ws),setAt hp g (.fam (vs.length + ws.length)),fun ts => ?_, .inr ⟨g,rfl, ?_,h4⟩, .setFam (by unfold blkCells;rw [h3])⟩
  ·have n1:elems hp ei.size (.lit ei.size (.fam g 0) vs)=some vs:=by simp [elems]
   have n2:isArr (.lit ei.size (.fam g 0) vs)=false:=rfl
   have n3:isSlc (.lit ei.size (.fam g 0) vs)=true:=rfl
   simp [builtinE,appendE,appElems,h1,h2,hy,hl,k5,k6,hk,n1,n2,n3,h3,h4]
  ·rw [getAt_eq,setAt_eq,List.getElem?_set_self]
   ·simp
   ·rw [getAt_eq] at h3;exact (List.getElem?_eq_some_iff.1 h3).1
theorem elems_lit' {hp:List Blk} {sz:Nat} {o:Own} {vs:List AV}:elems hp sz (.lit sz o vs)=some vs:=by simp [elems]
theorem IsSl.one {sz:Nat} {x:AV} {vs:List AV} (h:IsSl sz x vs):x.cells=[x]∧x.noTup=true:=by
 rcases h with ⟨rfl,rfl⟩ | ⟨o,rfl⟩ <;> exact ⟨rfl,rfl⟩
end
section
variable {C:Cfg}
theorem entry_trueI {P:Program} (hT:TabOK P C) {f:FuncId} {args:List AV} {fl:Nat} {hp':List Blk} {w:World} {rargs:List Value} (hf:(C.code f).isSome=true) (hg:∀ g v,C.glob g=some v→GlobOK w g v)
  (h:evI C fl f args []=some (.bool true,hp')) (hA:CR 0 (lay0 w) w args rargs):Calls P f rargs.toArray w fun e w'=>e = .returned (.bool true)∧Below w.heap.size w w':=by
 obtain ⟨k,hk⟩:=evI_to h
 exact entry_true hT hf hg (hk k (Nat.le_refl _)) hA
end
end Go.Proofs.YtgbheglnmdnkoaaGreatDoor.E
namespace Go.Proofs.YtgbheglnmdnkoaaGreatDoor.E
open Go
def FrE (S:List Nat) (hp hp':List Blk):Prop:=hp'.length=hp.length∧∀ b,b ∉ S→getAt hp' b=getAt hp b
theorem FrE.refl (S:List Nat) (hp:List Blk):FrE S hp hp:=⟨rfl,fun _ _=>rfl⟩
theorem FrE.trans {S:List Nat} {a b c:List Blk} (h:FrE S a b) (g:FrE S b c):FrE S a c:=⟨g.1.trans h.1,fun x hx=>(g.2 x hx).trans (h.2 x hx)⟩
theorem FrE.set {S:List Nat} {hp:List Blk} {b:Nat} {x:Blk} (h:b ∈ S):FrE S hp (setAt hp b x) :=
 ⟨setAt_length _ _ _,fun c hc=>by simp only [getAt_eq,setAt_eq];rw [List.getElem?_set_ne (fun e=>hc (by rw [← e];exact h))]⟩
end Go.Proofs.YtgbheglnmdnkoaaGreatDoor.E
/- What outlives a call: slices that grew in it. -/
namespace Go.Proofs.YtgbheglnmdnkoaaGreatDoor.E
open Go
variable {C : Cfg}
/-- a slice, read out -/
def sealOf : AV → AV
  | .lit sz _ vs => .lit sz .sealed vs
  | x => x
/-- a value that no call's end turns -/
def Plain (d : Nat) (v : AV) : Prop := ∀ hp n, shutV hp n d v = some v
theorem mapO_plain {hp : List Blk} {n d : Nat} : ∀ {vs : List AV}, (∀ v ∈ vs, Plain d v) → mapO (shutV hp n d) vs = some vs
  | [], _ => rfl
  | v :: vs, h => by
    unfold mapO
    rw [h v (by simp) hp n, mapO_plain (vs := vs) fun u hu => h u (by simp [hu])]
theorem shut_gr {fl sz : Nat} {hp : List Blk} {x : AV} {vs : List AV} (h : Gr fl sz hp x vs) (hv : ∀ v ∈ vs, Plain 99999 v) : shutV hp fl 100000 x = some (sealOf x) := by
  rcases h with ⟨rfl, rfl⟩ | ⟨g, rfl, _, h4⟩
  · rfl
  · have e : decide (g < fl) = false := decide_eq_false (by omega)
    show (match mapO (shutV hp fl 99999) vs with
      | some ys => some (AV.lit sz (bif decide (g < fl) then Own.fam g 0 else .sealed) ys)
      | none => none) = _
    rw [mapO_plain hv, e]; rfl
theorem plain_int {d : Nat} {k : IntKind} {n : Int} : Plain (d + 1) (.int k n) := fun _ _ => rfl
theorem plain_str {d : Nat} {s : List UInt8} : Plain (d + 1) (.str s) := fun _ _ => rfl
theorem plain_nilS {d : Nat} : Plain (d + 1) .nilS := fun _ _ => rfl
theorem plain_agg {d : Nat} {cs : List AV} (h : ∀ v ∈ cs, Plain d v) : Plain (d + 1) (.agg cs) := fun hp n => by
  show (mapO (shutV hp n d) cs).map AV.agg = _
  rw [mapO_plain h]; rfl
theorem plain_sealed {d sz : Nat} {vs : List AV} (h : ∀ v ∈ vs, Plain d v) : Plain (d + 1) (.lit sz .sealed vs) := fun hp n => by
  show (match mapO (shutV hp n d) vs with
      | some ys => some (AV.lit sz .sealed ys)
      | none => none) = _
  rw [mapO_plain h]
theorem plain_exact {d sz : Nat} {vs : List AV} (h : ∀ v ∈ vs, Plain d v) : Plain (d + 1) (.lit sz .exact vs) := fun hp n => by
  show (match mapO (shutV hp n d) vs with
      | some ys => some (AV.lit sz .exact ys)
      | none => none) = _
  rw [mapO_plain h]
end Go.Proofs.YtgbheglnmdnkoaaGreatDoor.E
namespace Go.Proofs.YtgbheglnmdnkoaaGreatDoor.E
open Go
section
variable {C:Cfg}
def PreN (n:Nat) (hp hp':List Blk):Prop:=hp.length≤hp'.length∧∀ c,c < n→getAt hp' c=getAt hp c
theorem PreN.refl (n:Nat) (hp:List Blk):PreN n hp hp:=⟨Nat.le_refl _,fun _ _=>rfl⟩
theorem PreN.trans {n:Nat} {a b c:List Blk} (h:PreN n a b) (g:PreN n b c):PreN n a c:=⟨Nat.le_trans h.1 g.1,fun x hx=>(g.2 x hx).trans (h.2 x hx)⟩
theorem PreN.mono {n k:Nat} {a b:List Blk} (h:PreN n a b) (hk:k≤n):PreN k a b:=⟨h.1,fun x hx=>h.2 x (by omega)⟩
theorem PreN.set {n b:Nat} {hp:List Blk} {x:Blk} (h:n≤b):PreN n hp (setAt hp b x) :=
 ⟨by rw [setAt_length];exact Nat.le_refl _,fun c hc=>by simp only [getAt_eq,setAt_eq];rw [List.getElem?_set_ne (by omega)]⟩
theorem PreN.app {n:Nat} {hp l:List Blk} (h:n≤hp.length):PreN n hp (hp++l) :=
 ⟨by simp,fun c hc=>by simp only [getAt_eq];rw [List.getElem?_append_left (by omega)]⟩
theorem preN_blk {n b:Nat} {hp hp':List Blk} {cs:List AV} (h:PreN n hp hp') (hb:blkCells hp b=some cs) (hn:b < n):blkCells hp' b=some cs:=by
 unfold blkCells at *;rw [h.2 b hn];exact hb
def AggN (sz:Nat) (vs:List AV):Prop:=∀ v ∈ vs,∃ c,v = .agg c∧c.length=sz
theorem AggN.app {sz:Nat} {vs ws:List AV} (h:AggN sz vs) (g:AggN sz ws):AggN sz (vs++ws):=fun v hv=>(List.mem_append.1 hv).elim (h v) (g v)
theorem flat_len {sz:Nat}:∀ {vs:List AV},AggN sz vs→(flat vs).length=vs.length * sz
 | [],_=>by simp [flat]
 | v::vs,h=>by
  obtain ⟨c,rfl,hc⟩:=h v (by simp)
  have ih:=flat_len (vs:=vs) fun u hu=>h u (by simp [hu])
  simp only [flat,AV.cells,List.length_append,hc,ih,List.length_cons,Nat.add_mul,Nat.one_mul];omega
theorem chunk_flat {sz:Nat} (h1:sz≠1):∀ {vs:List AV} {rest:List AV},AggN sz vs→chunk sz vs.length (flat vs++rest)=some vs
 | [],_,_=>rfl
 | v::vs,rest,h=>by
  obtain ⟨c,rfl,hc⟩:=h v (by simp)
  have ih:=chunk_flat (rest:=rest) h1 (vs:=vs) fun u hu=>h u (by simp [hu])
  have e1:(sz==1)=false:=by simpa using h1
  have e2:(c++(flat vs++rest)).take sz=c:=by rw [List.take_append_of_le_length (by omega),List.take_of_length_le (by omega)]
  have e3:(c++(flat vs++rest)).drop sz=flat vs++rest:=by rw [List.drop_append_of_le_length (by omega),List.drop_of_length_le (by omega)];rfl
  simp only [flat,AV.cells,List.append_assoc,List.length_cons,chunk,e1,cond_false rfl,e2,hc,beq_self_eq_true,cond_true rfl,e3,ih]
def RowN (n sz:Nat) (hp:List Blk) (x:AV) (vs:List AV):Prop:=(x = .nilS∧vs=[])∨∃ b,x = .arr sz b 0 vs.length∧blkCells hp b=some (flat vs)∧n≤b∧AggN sz vs
theorem RowN.nil (n sz:Nat) (hp:List Blk):RowN n sz hp .nilS [] := .inl ⟨rfl,rfl⟩
theorem RowN.elems {n sz:Nat} {hp:List Blk} {x:AV} {vs:List AV} (h:RowN n sz hp x vs) (h1:sz≠1):elems hp sz x=some vs:=by
 rcases h with ⟨rfl,rfl⟩ | ⟨b,rfl,h2,_,h4⟩
 ·rfl
 ·have:=chunk_flat (rest:=[]) h1 h4
  simp [E.elems,h2,List.append_nil] at this ⊢
  exact this
theorem RowN.pre {n sz:Nat} {hp:List Blk} {x:AV} {vs:List AV} (h:RowN n sz hp x vs) {k:Nat} (hk:k≤n):RowN k sz hp x vs:=by
 rcases h with h | ⟨b,h1,h2,h3,h4⟩
 ·exact .inl h
 ·exact .inr ⟨b,h1,h2,by omega,h4⟩
theorem append_row {fl n sz bytes:Nat} {hp:List Blk} {x y:AV} {vs ws:List AV} {t:TypeId} (h:RowN n sz hp x vs) (hy:elems hp sz y=some ws) (ha:AggN sz ws) (ht:elT C t sz bytes=true) (h1:sz≠1) (hl:(vs.length + ws.length) * bytes≤140737488355328) (hf:fl≤n) (hn:n≤hp.length) :
  ∃ x' hp' fp,(∀ ts,builtinE C fl true ⟨ts,hp⟩ .append [t,t] [x,y]=some ⟨.v x',ts,hp',fp⟩)∧RowN n sz hp' x' (vs++ws)∧PreN n hp hp':=by
 have he:=h.elems h1
 obtain ⟨e,a,b0,c,d,ei,g1,g2,rfl,rfl,h5,h6⟩:=elT_ty ht
 have k5:(ei.size==0)=false:=by simpa using h5
 have k6:(ei.bytes==0)=false:=by simpa using h6
 by_cases hw:ws=[]
 ·subst hw
  refine ⟨x,hp,bif isArr x||isArr y then .hw else .fw,fun ts => ?_,by simpa using h, .refl _ _⟩
  ·have hs:isSlc x=true:=by
    rcases h with ⟨rfl,rfl⟩ | ⟨b,rfl,_⟩ <;> rfl
   have hl':decide ((vs.length + 0) * ei.bytes≤140737488355328)=true:=decide_eq_true (by simpa using hl)
   simp only [builtinE,appendE,appElems,g1,g2,he,hy,List.length_nil,hl',k5,k6,hs,Bool.not_true,Bool.or_self,cond_false rfl,beq_self_eq_true,cond_true rfl]
 ·have hk:(ws.length==0)=false:=by simpa using hw
  have hl':decide ((vs.length + ws.length) * ei.bytes≤140737488355328)=true:=decide_eq_true hl
  rcases h with ⟨rfl,rfl⟩ | ⟨b,rfl,g3,g4,g5⟩
  ·refine ⟨.arr ei.size hp.length 0 ws.length,hp++[.cells (flat ws)],bif isArr .nilS||isArr y then .hw else .fw,fun ts => ?_, .inr ⟨hp.length,by simp,blk_last,hn,by simpa using ha⟩, .app hn⟩
   have n1:isSlc .nilS=true:=rfl
   simp only [List.length_nil,Nat.zero_add] at hl'
   simp only [builtinE,appendE,appElems,g1,g2,he,hy,List.length_nil,Nat.zero_add,hl',k5,k6,n1,hk,Bool.not_true,Bool.or_self,cond_false rfl,cond_true rfl,List.nil_append]
  ·have hfl:decide (fl≤b)=true:=decide_eq_true (by omega)
   have hcap:decide (0 + (vs.length + ws.length) * ei.size≤(flat vs).length)=false:=decide_eq_false (by
    rw [flat_len g5,Nat.add_mul]
    have:0 < ws.length * ei.size:=Nat.mul_pos (List.length_pos_iff.2 hw) (by omega)
    omega)
   have n1:isSlc (.arr ei.size b 0 vs.length)=true:=rfl
   have hb:=blk_lt g3
   refine ⟨.arr ei.size hp.length 0 (vs.length + ws.length),setAt hp b .dead++[.cells (flat (vs++ws))],bif isArr (.arr ei.size b 0 vs.length)||isArr y then .hw else .fw,fun ts => ?_, .inr ⟨hp.length,by simp, ?_,hn,g5.app ha⟩,(PreN.set g4).trans (.app (by rw [setAt_length];exact hn))⟩
   ·simp only [builtinE,appendE,appElems,g1,g2,he,hy,hl',k5,k6,n1,hk,g3,hfl,hcap,Bool.not_true,Bool.or_self,cond_false rfl,cond_true rfl]
   ·exact blk_last' (setAt_length _ _ _)
end
end Go.Proofs.YtgbheglnmdnkoaaGreatDoor.E
namespace Go.Proofs.YtgbheglnmdnkoaaGreatDoor.E.R
open Go
structure W4 where
 a:BitVec 64
 b:BitVec 64
 c:BitVec 64
 d:BitVec 64
@[reducible] def wAV (x:BitVec 64):AV := .int .u64 (x.toNat:Int)
def W4.zero:W4:=⟨0,0,0,0⟩
def setBit (w:BitVec 64) (n:Nat):BitVec 64:=w ||| (1#64 <<< n)
def W4.add (s:W4) (k:Nat):W4:=match k / 64 with
 | 0=>{ s with a:=setBit s.a (k % 64) }
 | 1=>{ s with b:=setBit s.b (k % 64) }
 | 2=>{ s with c:=setBit s.c (k % 64) }
 | _=>{ s with d:=setBit s.d (k % 64) }
def W4.addN (s:W4):Nat→Nat→W4
 | 0,_=>s
 | n + 1,k=>(s.add k).addN n (k + 1)
def W4.with (s:W4) (lo hi:UInt8):W4:=s.addN (hi.toNat + 1 - lo.toNat) lo.toNat
def W4.word (s:W4) (k:Nat):BitVec 64:=match k / 64 with
 | 0=>s.a
 | 1=>s.b
 | 2=>s.c
 | _=>s.d
def W4.has (s:W4) (k:Nat):Bool:=(s.word k).getLsbD (k % 64)
theorem W4.ext {s t:W4} (h:∀ x,x < 256→s.has x=t.has x):s=t:=by
 have key:∀ (j:Nat) (u v:BitVec 64),j < 4→(∀ m,m < 64→u.getLsbD m=v.getLsbD m)→u=v:=fun j u v _ hh=>BitVec.eq_of_getLsbD_eq hh
 have ha:s.a=t.a:=key 0 _ _ (by omega) fun m hm=>by
  have:=h m (by omega);unfold W4.has W4.word at this;rw [show m / 64=0 by omega,show m % 64=m by omega] at this;exact this
 have hb:s.b=t.b:=key 1 _ _ (by omega) fun m hm=>by
  have:=h (m + 64) (by omega);unfold W4.has W4.word at this;rw [show (m + 64) / 64=1 by omega,show (m + 64) % 64=m by omega] at this;exact this
 have hc:s.c=t.c:=key 2 _ _ (by omega) fun m hm=>by
  have:=h (m + 128) (by omega);unfold W4.has W4.word at this;rw [show (m + 128) / 64=2 by omega,show (m + 128) % 64=m by omega] at this;exact this
 have hd:s.d=t.d:=key 3 _ _ (by omega) fun m hm=>by
  have:=h (m + 192) (by omega);unfold W4.has W4.word at this;rw [show (m + 192) / 64=3 by omega,show (m + 192) % 64=m by omega] at this;exact this
 cases s;cases t;simp_all
end Go.Proofs.YtgbheglnmdnkoaaGreatDoor.E.R
namespace Go.Proofs.YtgbheglnmdnkoaaGreatDoor.E
open Go E.R
inductive Node where
 | mk (kind:Int) (set:W4) (mn mx:Int) (kids:List Node)
namespace Node
def kind:Node→Int | mk k _ _ _ _=>k
def set:Node→W4 | mk _ s _ _ _=>s
def mn:Node→Int | mk _ _ a _ _=>a
def mx:Node→Int | mk _ _ _ b _=>b
def kids:Node→List Node | mk _ _ _ _ l=>l
def empty:Node:=mk 0 W4.zero 0 0 []
def one (s:W4):Node:=mk 1 s 0 0 []
end Node
abbrev nAV (n:Node) (ks:AV):AV := .agg [AI n.kind,wAV n.set.a,wAV n.set.b,wAV n.set.c,wAV n.set.d,AI n.mn,AI n.mx,ks]
inductive NodeR:Node→AV→Prop
 | mk (n:Node) (ks:AV) (vs:List AV) (h:IsSl 8 ks vs) (hl:vs.length=n.kids.length) (hr:∀ (i:Nat) (k:Node) (v:AV),n.kids[i]?=some k→vs[i]?=some v→NodeR k v):NodeR n (nAV n ks)
def NodesR (l:List Node) (vs:List AV):Prop:=vs.length=l.length∧∀ (i:Nat) (k:Node) (v:AV),l[i]?=some k→vs[i]?=some v→NodeR k v
def KidsR (l:List Node) (ks:AV):Prop:=∃ vs,IsSl 8 ks vs∧NodesR l vs
theorem NodeR.of {n:Node} {ks:AV} (h:KidsR n.kids ks):NodeR n (nAV n ks):=by
 obtain ⟨vs,h1,h2,h3⟩:=h
 exact .mk n ks vs h1 h2 h3
theorem NodeR.to {n:Node} {v:AV} (h:NodeR n v):∃ ks,v=nAV n ks∧KidsR n.kids ks:=by
 match h with
 | .mk _ ks vs h hl hr=>exact ⟨ks,rfl,vs,h,hl,hr⟩
theorem NodesR.nil:NodesR [] []:=⟨rfl,fun i k v h=>by simp at h⟩
theorem NodesR.app {l m:List Node} {vs ws:List AV} (h:NodesR l vs) (g:NodesR m ws):NodesR (l++m) (vs++ws):=by
 refine ⟨by simp [h.1,g.1],fun i k v hk hv => ?_⟩
 by_cases hi:i < l.length
 ·rw [List.getElem?_append_left hi] at hk
  rw [List.getElem?_append_left (by rw [h.1];exact hi)] at hv
  exact h.2 i k v hk hv
 ·rw [List.getElem?_append_right (by omega)] at hk
  rw [List.getElem?_append_right (by rw [h.1];omega),h.1] at hv
  exact g.2 _ k v hk hv
theorem NodesR.one {n:Node} {v:AV} (h:NodeR n v):NodesR [n] [v]:=⟨rfl,fun i k u hk hu=>by
 cases i with
 | zero=>simp at hk hu;subst hk;subst hu;exact h
 | succ i=>simp at hk⟩
theorem NodesR.agg {l:List Node} {vs:List AV} (h:NodesR l vs):AggN 8 vs:=fun v hv=>by
 obtain ⟨i,hi,he⟩:=List.mem_iff_getElem.1 hv
 have hl:i < l.length:=by rw [← h.1];exact hi
 obtain ⟨ks,rfl,_⟩:=(h.2 i l[i] v (List.getElem?_eq_getElem hl) (by rw [List.getElem?_eq_getElem hi,he])).to
 exact ⟨_,rfl,rfl⟩
theorem NodesR.get {l:List Node} {vs:List AV} (h:NodesR l vs) {i:Nat} {n:Node} (hn:l[i]?=some n):∃ ks,vs[i]?=some (nAV n ks)∧KidsR n.kids ks:=by
 have hi:i < l.length:=(List.getElem?_eq_some_iff.1 hn).1
 have hv:i < vs.length:=by rw [h.1];exact hi
 obtain ⟨ks,h1,h2⟩:=(h.2 i n vs[i] hn (List.getElem?_eq_getElem hv)).to
 exact ⟨ks,by rw [List.getElem?_eq_getElem hv,h1],h2⟩
end Go.Proofs.YtgbheglnmdnkoaaGreatDoor.E
namespace Go.Proofs.YtgbheglnmdnkoaaGreatDoor.E
open Go
section
variable {C:Cfg}
theorem flatN_drop {sz:Nat}:∀ {vs:List AV} (j:Nat),AggN sz vs→(flat vs).drop (j * sz)=flat (vs.drop j)
 | _,0,_=>by simp
 | [],j + 1,_=>by simp [flat]
 | v::vs,j + 1,h=>by
  obtain ⟨c,rfl,hc⟩:=h v (by simp)
  have ih:=flatN_drop j (vs:=vs) fun u hu=>h u (by simp [hu])
  simp only [flat,AV.cells,List.drop_succ_cons]
  have e:(c++flat vs).drop sz=flat vs:=by rw [List.drop_append_of_le_length (by omega),List.drop_of_length_le (by omega)];rfl
  rw [← ih,Nat.add_mul,Nat.one_mul,Nat.add_comm,← List.drop_drop,e]
theorem flatN_set {sz:Nat} {c:List AV} (hc:c.length=sz):∀ {vs:List AV} (j:Nat),AggN sz vs→j < vs.length→splice (flat vs) (j * sz) c=flat (vs.set j (.agg c))
 | [],_,_,hj=>by simp at hj
 | v::vs,0,h,_=>by
  obtain ⟨d,rfl,hd⟩:=h v (by simp)
  have:splice (flat (.agg d::vs)) 0 c=c++(flat (.agg d::vs)).drop c.length:=by cases (flat (AV.agg d::vs)) <;> rfl
  rw [Nat.zero_mul,this]
  simp only [flat,AV.cells,List.set_cons_zero]
  rw [List.drop_append_of_le_length (by omega),List.drop_of_length_le (by omega),List.nil_append]
 | v::vs,j + 1,h,hj=>by
  obtain ⟨d,rfl,hd⟩:=h v (by simp)
  have ih:=flatN_set hc j (vs:=vs) (fun u hu=>h u (by simp [hu])) (by simpa using hj)
  simp only [flat,AV.cells,List.set_cons_succ]
  rw [← ih]
  clear ih
  have key:∀ (d l:List AV) (k:Nat),splice (d++l) (d.length + k) c=d++splice l k c:=by
   intro d
   induction d with
   | nil=>intro l k;simp
   | cons a d ihd=>intro l k;simp only [List.length_cons,List.cons_append];rw [Nat.add_right_comm];simp only [splice,ihd]
  rw [show (j + 1) * sz=d.length + j * sz by rw [Nat.add_mul,Nat.one_mul,hd,Nat.add_comm],key]
theorem flat_app {l m:List AV}:flat (l++m)=flat l++flat m:=by
 induction l with
 | nil=>rfl
 | cons a l ih=>simp [flat,ih]
theorem AggN.set {sz:Nat} {vs:List AV} {c:List AV} {i:Nat} (h:AggN sz vs) (hc:c.length=sz):AggN sz (vs.set i (.agg c)):=fun v hv=>by
 rcases List.mem_or_eq_of_mem_set hv with hv | rfl
 ·exact h v hv
 ·exact ⟨c,rfl,hc⟩
theorem AggN.take {sz:Nat} {vs:List AV} {i:Nat} (h:AggN sz vs):AggN sz (vs.take i):=fun v hv=>h v (List.mem_of_mem_take hv)
def isAggT (C:Cfg) (t:TypeId) (sz:Nat):Bool:=match C.ty t with
 | some ⟨.struct _,s,_,_,_⟩=>s==sz
 | _=>false
theorem isAggT_ty {t:TypeId} {sz:Nat} (h:isAggT C t sz=true):∃ f a b c,C.ty t=some ⟨.struct f,sz,a,b,c⟩:=by
 unfold isAggT at h
 split at h
 ·rename_i f s a b c h1
  have:s=sz:=by simpa using h
  subst this
  exact ⟨f,a,b,c,h1⟩
 ·cases h
theorem load_row {t:TypeId} {b j sz:Nat} {hp:List Blk} {xs:List AV} {c:List AV} (h:blkCells hp b=some (flat xs)) (hj:xs[j]?=some (.agg c)) (ha:AggN sz xs) (ht:isAggT C t sz=true):∀ ts,loadAt C ⟨ts,hp⟩ t (.v (.ptr b (j * sz)))=some ⟨.v (.agg c),ts,hp, .hb b⟩:=by
 intro ts
 obtain ⟨f,p,q,r,h1⟩:=isAggT_ty ht
 have hi:j < xs.length:=(List.getElem?_eq_some_iff.1 hj).1
 have hx:xs[j] = .agg c:=(List.getElem?_eq_some_iff.1 hj).2
 have e1:xs.drop j = .agg c::xs.drop (j + 1):=by rw [← hx];exact (List.getElem_cons_drop ..).symm
 obtain ⟨c',e2,hc⟩:=ha _ (List.mem_of_getElem? hj)
 cases e2
 have e3:((flat xs).drop (j * sz)).take sz=c:=by
  rw [flatN_drop j ha,e1]
  simp only [flat,AV.cells]
  rw [List.take_append_of_le_length (by omega),List.take_of_length_le (by omega)]
 simp only [loadAt,h1,h,part,TK.agg,e3,hc,cond_true rfl,beq_self_eq_true,Option.map]
theorem store_row {t:TypeId} {b i sz fl:Nat} {hp:List Blk} {xs:List AV} {c:List AV} (h:blkCells hp b=some (flat xs)) (ha:AggN sz xs) (hi:i < xs.length) (ht:isAggT C t sz=true) (hc:c.length=sz) (hn:(AV.agg c).noTup=true) (hf:fl≤b):∀ ts,storeAt C fl ⟨ts,hp⟩ t (.v (.ptr b (i * sz))) (.agg c)=some ⟨.sk,ts,setAt hp b (.cells (flat (xs.set i (.agg c)))), .hw⟩:=by
 intro ts
 obtain ⟨f,p,q,r,h1⟩:=isAggT_ty ht
 have e1:decide (i * sz + sz≤(flat xs).length)=true:=decide_eq_true (by
  rw [flat_len ha]
  have:(i + 1) * sz≤xs.length * sz:=Nat.mul_le_mul_right _ hi
  rw [Nat.add_mul,Nat.one_mul] at this
  exact this)
 have e2:decide (fl≤b)=true:=decide_eq_true hf
 simp only [storeAt,h1,h,hn,AV.cells,hc,e1,e2,flatN_set hc i ha hi,beq_self_eq_true,Bool.not_true,Bool.or_self,cond_false rfl,Bool.and_self,cond_true rfl]
theorem indexAddr_row {t:TypeId} {sz b len j:Nat} (ht:isSlcT C t sz=true) (h:j < len):indexAddr C t (.v (.arr sz b 0 len)) (j:Int)=some (.v (.ptr b (j * sz))):=by
 rw [indexAddr_arr ht (by omega) (by omega)]
 simp
def RowT (n sz:Nat) (hp:List Blk) (x:AV) (vs:List AV):Prop:=(x = .nilS∧vs=[])∨∃ b rest,x = .arr sz b 0 vs.length∧blkCells hp b=some (flat vs++rest)∧n≤b∧AggN sz vs
theorem RowN.rowT {n sz:Nat} {hp:List Blk} {x:AV} {vs:List AV} (h:RowN n sz hp x vs):RowT n sz hp x vs:=by
 rcases h with h | ⟨b,h1,h2,h3,h4⟩
 ·exact .inl h
 ·exact .inr ⟨b,[],h1,by simpa using h2,h3,h4⟩
theorem RowT.elems {n sz:Nat} {hp:List Blk} {x:AV} {vs:List AV} (h:RowT n sz hp x vs) (h1:sz≠1):elems hp sz x=some vs:=by
 rcases h with ⟨rfl,rfl⟩ | ⟨b,rest,rfl,h2,_,h4⟩
 ·rfl
 ·have:=chunk_flat (rest:=rest) h1 h4
  simp only [E.elems,h2,List.drop_zero]
  simpa using this
theorem slice_row_from {t:TypeId} {sz b len i:Nat} {hp:List Blk} {xs:List AV} {k:IntKind} (h:blkCells hp b=some xs) (ht:isSlcT C t sz=true) (hi:i < len):∀ ts,sliceE C ⟨ts,hp⟩ t (.v (.arr sz b 0 len)) (some (.int k (i:Int))) none none=some (.arr sz b (i * sz) (len - i)):=by
 intro ts
 unfold isSlcT at ht
 split at ht
 ·rename_i e _ _ _ _ h1
  split at ht
  ·rename_i ei h2
   have e1:decide ((i:Int) < 0)=false:=decide_eq_false (by omega)
   have e2:decide (i≤len)=true:=decide_eq_true (by omega)
   have e3:(i==len)=false:=by simp;omega
   simp only [sliceE,h1,h2,bnd,h,e1,e2,e3,ht,Int.toNat_natCast,Nat.le_refl,decide_true,Bool.and_self,Bool.not_true,cond_false rfl,Bool.false_and,Nat.zero_add]
  ·cases ht
 ·cases ht
theorem slice_row_to {t:TypeId} {sz b len i:Nat} {hp:List Blk} {xs:List AV} {k:IntKind} (h:blkCells hp b=some xs) (ht:isSlcT C t sz=true) (hi:i < len):∀ ts,sliceE C ⟨ts,hp⟩ t (.v (.arr sz b 0 len)) none (some (.int k (i:Int))) none=some (.arr sz b 0 i):=by
 intro ts
 unfold isSlcT at ht
 split at ht
 ·rename_i e _ _ _ _ h1
  split at ht
  ·rename_i ei h2
   have e1:decide ((i:Int) < 0)=false:=decide_eq_false (by omega)
   have e2:decide (i≤len)=true:=decide_eq_true (by omega)
   have e3:decide (0≤i)=true:=decide_eq_true (by omega)
   have e4:(!((0:Nat)==0))=false:=rfl
   simp only [sliceE,h1,h2,bnd,h,e1,e2,e3,e4,ht,Int.toNat_natCast,Bool.and_self,Bool.not_true,cond_false rfl,Bool.and_false,Nat.zero_add,Nat.zero_mul,Nat.sub_zero]
  ·cases ht
 ·cases ht
end
end Go.Proofs.YtgbheglnmdnkoaaGreatDoor.E
namespace Go.Proofs.YtgbheglnmdnkoaaGreatDoor.E
open Go E.R
section
variable {C:Cfg}
def Dep:Nat→Node→Prop
 | 0,_=>False
 | d + 1,n=>∀ k ∈ n.kids,Dep d k
theorem Dep.mono:∀ {d e:Nat} {n:Node},Dep d n→d≤e→Dep e n
 | 0,_,_,h,_=>h.elim
 | d + 1,0,_,_,h=>by omega
 | d + 1,e + 1,_,h,he=>fun k hk=>Dep.mono (h k hk) (by omega)
end
section
variable {C:Cfg}
structure Row2 (n rb:Nat) (hp0 hp:List Blk) (x y:AV) (A O:List AV):Prop where
 len:n≤hp.length
 old:∀ b,b < n→b≠rb→getAt hp b=getAt hp0 b
 fams:∀ b,n≤b→b < hp.length→∃ k,getAt hp b=some (.fam k)
 gx:Gr n 8 hp x A
 gy:Gr n 8 hp y O
 ne:∀ g h,x = .lit 8 (.fam g 0) A→y = .lit 8 (.fam h 0) O→g≠h
theorem Gr.low {fl n sz:Nat} {hp:List Blk} {x:AV} {vs:List AV} (h:Gr n sz hp x vs) (hf:fl≤n):Gr fl sz hp x vs:=by
 rcases h with h | ⟨g,h1,h2,h3⟩
 ·exact .inl h
 ·exact .inr ⟨g,h1,h2,by omega⟩
theorem Row2.start {n rb:Nat} {hp:List Blk} (h:n=hp.length):Row2 n rb hp hp .nilS .nilS [] [] :=
 ⟨by omega,fun _ _ _=>rfl,fun b h1 h2=>by omega, .nil _ _ _, .nil _ _ _,fun g h e=>by cases e⟩
theorem Row2.swap {n rb:Nat} {hp0 hp:List Blk} {x y:AV} {A O:List AV} (h:Row2 n rb hp0 hp x y A O):Row2 n rb hp0 hp y x O A:=⟨h.len,h.old,h.fams,h.gy,h.gx,fun g k e1 e2 e=>h.ne k g e2 e1 e.symm⟩
theorem cloH_setC {n rb:Nat} {hp:List Blk} {cs:List AV} (h:cloH n hp=true) (hc:cloAs n cs=true):cloH n (setAt hp rb (.cells cs))=true:=by
 unfold cloH at *
 rw [List.all_eq_true] at h ⊢
 intro b hb
 rw [setAt_eq] at hb
 rcases List.mem_or_eq_of_mem_set hb with hb | rfl
 ·exact h b hb
 ·exact hc
end
mutual
theorem cloA_mono {n k:Nat} (hk:n≤k):∀ (v:AV),cloA n v=true→cloA k v=true
 | .ptr b o,h=>by simp only [cloA,decide_eq_true_eq] at *;omega
 | .mpr b,h=>by simp only [cloA,decide_eq_true_eq] at *;omega
 | .rop x,h=>by rw [cloA] at *;exact cloA_mono hk x h
 | .lit sz own xs,h=>by
  rw [cloA,Bool.and_eq_true] at *
  refine ⟨?_,cloAs_mono hk xs h.2⟩
  have h1:=h.1
  cases own with
  | fam g s=>simp only [ownC,decide_eq_true_eq] at *;omega
  | _=>rfl
 | .arr sz b o l,h=>by simp only [cloA,decide_eq_true_eq] at *;omega
 | .fn f a b,h=>by rw [cloA,Bool.and_eq_true] at *;exact ⟨cloAs_mono hk a h.1,cloAs_mono hk b h.2⟩
 | .iface t x,h=>by rw [cloA] at *;exact cloA_mono hk x h
 | .agg cs,h=>by rw [cloA] at *;exact cloAs_mono hk cs h
 | .tup cs,h=>by rw [cloA] at *;exact cloAs_mono hk cs h
 | .bool b,_=>rfl
 | .int k i,_=>rfl
 | .str s,_=>rfl
 | .nilP,_=>rfl
 | .nilS,_=>rfl
 | .nilF,_=>rfl
 | .nilI,_=>rfl
 | .nilM,_=>rfl
theorem cloAs_mono {n k:Nat} (hk:n≤k):∀ (xs:List AV),cloAs n xs=true→cloAs k xs=true
 | [],_=>rfl
 | x::xs,h=>by rw [cloAs,Bool.and_eq_true] at *;exact ⟨cloA_mono hk x h.1,cloAs_mono hk xs h.2⟩
end
theorem cloB_mono {n k:Nat} (hk:n≤k):∀ (b:Blk),cloB n b=true→cloB k b=true
 | .cells cs,h=>cloAs_mono hk cs h
 | .dead,_=>rfl
 | .fam _,_=>rfl
 | .obj (.sit _ _),_=>rfl
 | .obj (.mp es),h=>cloAs_mono hk (es.map fun e:List UInt8 × AV=>e.2) h
theorem cloH_mono {n k:Nat} {hp:List Blk} (hk:n≤k) (h:cloH n hp=true):cloH k hp=true:=by
 unfold cloH at *
 rw [List.all_eq_true] at *
 exact fun b hb=>cloB_mono hk b (h b hb)
theorem Row2.clo {n rb p:Nat} {hp0 hp:List Blk} {x y:AV} {A O:List AV} {s:List UInt8} {bad:Int} (h:Row2 n rb hp0 hp x y A O) (hc:cloH n hp0=true) (hb:blkCells hp rb=some [.str s, .int .i64 p, .int .i64 bad]):cloH hp.length hp=true:=by
 unfold cloH at *
 rw [List.all_eq_true] at *
 intro z hz
 obtain ⟨i,hi,rfl⟩:=List.mem_iff_getElem.1 hz
 have hg:getAt hp i=some hp[i]:=by rw [getAt_eq,List.getElem?_eq_getElem hi]
 by_cases hin:i < n
 ·by_cases hr:i=rb
  ·subst hr
   unfold blkCells at hb
   rw [hg] at hb
   generalize hp[i]=z at hb
   cases z with
   | cells cs=>dsimp only at hb;cases hb;rfl
   | obj o=>cases hb
   | _=>rfl
  ·have h1:=h.old i hin hr
   rw [hg] at h1
   have h2:=hc hp[i] (by rw [getAt_eq] at h1;exact List.mem_of_getElem? h1.symm)
   exact cloB_mono h.len _ h2
 ·obtain ⟨k,hk⟩:=h.fams i (by omega) hi
  rw [hg] at hk
  have:=Option.some.inj hk
  rw [this]
  rfl
end Go.Proofs.YtgbheglnmdnkoaaGreatDoor.E
namespace Go.Proofs.YtgbheglnmdnkoaaGreatDoor.E
open Go Go.RowKit Go.Lib
section
variable {P : Program} {C : Cfg}

/-! strconv.FormatInt and strconv.ParseInt -/
def dDig : Nat → Nat → List UInt8
  | 0, _ => []
  | f + 1, u => bif Nat.blt u 10 then [UInt8.ofNat (48 + u)] else dDig f (u / 10) ++ [UInt8.ofNat (48 + u % 10)]
theorem dDig_eq : ∀ (f u : Nat), u < 10 ^ f → 0 < f → dDig f u = decDigits u
  | 0, _, _, h => by omega
  | f + 1, u, h, _ => by
    unfold dDig
    rw [decDigits]
    by_cases hu : u < 10
    · rw [dif_pos hu, cond_true (show Nat.blt u 10 = true by rw [Nat.blt_eq]; exact hu)]
    · rw [dif_neg hu, cond_false (show Nat.blt u 10 = false from Bool.eq_false_iff.2 fun h => hu (by rwa [Nat.blt_eq] at h))]
      have h' : u < 10 ^ f * 10 := by rw [← Nat.pow_succ]; exact h
      cases f with
      | zero => omega
      | succ f => rw [dDig_eq (f + 1) (u / 10) (by omega) (by omega)]
def itoaE (n : Int) : List UInt8 := bif decide (n < 0) then 45 :: dDig 20 n.natAbs else dDig 20 n.toNat
theorem itoaE_eq {n : Int} (h0 : -9223372036854775808 ≤ n) (h1 : n ≤ 9223372036854775807) : itoaE n = itoa n := by
  unfold itoaE itoa
  rw [cond_eq_ite]
  simp only [decide_eq_true_eq]
  rw [dDig_eq 20 _ (by omega) (by omega), dDig_eq 20 _ (by omega) (by omega)]
def extFmt : List AV → Option AV
  | [.int .i64 n, .int .i64 b] => bif decide (b = 10) && (decide (-9223372036854775808 ≤ n) && decide (n ≤ 9223372036854775807)) then some (.str (itoaE n)) else none
  | _ => none
def FormatSays (P : Program) (f : FuncId) : Prop :=
  ∀ (n : Int) (w : World), -9223372036854775808 ≤ n → n ≤ 9223372036854775807 → TabIs P w "internal/strconv.uint64pow10" .u64 pow10Tab →
    Calls P f #[.int .i64 n, .int .i64 10] w fun e w' => e = .returned (.string ⟨(itoa n).toArray⟩) ∧ Below w.heap.size w w'
/-- a table of numbers that a variable holds -/
def tabAV (k : IntKind) (zs : List Int) : AV := .agg (zs.map fun z => .int k z)
theorem tab_is {B : Nat} {w0 w : World} {L : Lay} {hp : List Blk} {g : Nat} {k : IntKind} {zs : List Int} {name : String} (hI : Inv C.glob B w0 L w hp) (hn : P.globalNamed name = some g) (hg : C.glob g = some (tabAV k zs)) : TabIs P w name k zs := by
  obtain ⟨hB, cs, t, q, h1, h2⟩ := hI.kept g _ hg
  have h3 : w.heap[g]? = some (.cells cs t q) := (hI.below.block g hB).trans h1
  have hl : cs.size = zs.length := by rw [h2]; simp [tabAV, AV.cells]
  unfold TabIs World.var?
  rw [hn]
  simp only [Option.bind_some, h3]
  congr 1
  refine Array.ext (by simp [hl]) fun i hi hi' => ?_
  have := hI.globs g _ hg
  cases this with
  | rop _ _ _ cv k1 k2 k3 =>
    have hz : i < zs.length := by omega
    have e1 := (k1 i (by simp [tabAV, AV.cells]; exact hz)).1
    have e2 := k3 i (.int k zs[i]) (by simp [tabAV, AV.cells, hz])
    have e3 : cv i = .int k zs[i] := by
      generalize cv i = u at e2
      cases e2; rfl
    rw [e3] at e1
    have e4 : w.cell? ⟨g, 0 + i, none⟩ = cs[i]? := by
      unfold World.cell?
      simp [h3]
    rw [e4, Array.getElem?_eq_getElem hi] at e1
    simp at e1
    simp [e1]
theorem extFmt_ok {f : FuncId} {fn : Func} {g : Nat} (hf : P.funcs[f]? = some fn) (hb : fn.body.isSome = true) (hname : (fn.name == "runtime.NumGoroutine") = false) (hS : FormatSays P f) (hn : P.globalNamed "internal/strconv.uint64pow10" = some g) (hg : C.glob g = some (tabAV .u64 pow10Tab))
    (args : List AV) (v : AV) (hp : List Blk) (hv : extFmt args = some v) (B : Nat) (w0 : World) (L : Lay) (w : World) (rargs : List Value) (hI : Inv C.glob B w0 L w hp) (hA : CR hp.length L w args rargs) :
    FCalls P f rargs.toArray w (CallPost C B w0 L w hp.length v hp) := by
  refine fcalls_calls hf hb hname ?_
  unfold extFmt at hv
  split at hv
  · rename_i n b
    simp only [cond_eq_ite] at hv
    split at hv
    · rename_i hc
      cases hv
      simp only [decide_eq_true_eq, Bool.and_eq_true] at hc
      obtain ⟨rfl, c1, c2⟩ := hc
      obtain ⟨hl, hA⟩ := hA
      obtain ⟨r0, r1, rfl⟩ : ∃ r0 r1, rargs = [r0, r1] := by
        match rargs, hl with
        | [a, b], _ => exact ⟨a, b, rfl⟩
      have h0 := hA 0 _ r0 rfl rfl
      have h1 := hA 1 _ r1 rfl rfl
      cases h0 with | int _ _ => ?_
      cases h1 with | int _ _ => ?_
      refine Calls.mono (hS n w c1 c2 (tab_is hI hn hg)) fun e w' ⟨he, hw⟩ => ?_
      subst he
      refine grow_post hI hw ?_
      rw [itoaE_eq c1 c2]
      exact .str _ _ (by simp)
    · cases hv
  · cases hv

def txPI : List UInt8 := [80, 97, 114, 115, 101, 73, 110, 116]
/-- strconv.ParseInt: T: the type of a pointer to what went wrong; eS, eR: what the two variables hold -/
def extPI (T : TypeId) (eS eR : AV) : List AV → Option AV
  | [.str s, .int .i64 b, .int .i64 z] => bif decide (b = 10) && (decide (z = 64) && decide (s.length ≤ 281474976710656)) then
      (match parseIntB 64 s with
      | .ok v => some (.tup [.int .i64 v, .nilI])
      | .range => some (.tup [.int .i64 (intSat 64 s), .iface T (.rop (.agg [.str txPI, .str s, eR]))])
      | _ => some (.tup [.int .i64 0, .iface T (.rop (.agg [.str txPI, .str s, eS]))])) else none
  | _ => none
def ParseSays (P : Program) (f : FuncId) (T q : TypeId) (gS gR : Nat) : Prop :=
  ∀ (s : ByteArray) (w : World), s.size ≤ 281474976710656 →
    (∀ v, parseIntB 64 s.data.toList = .ok v → Calls P f #[.string s, .int .i64 10, .int .i64 64] w fun e w' => e = .returned (.tuple #[.int .i64 v, .nilIface]) ∧ Below w.heap.size w w') ∧
    (∀ te pe, (∀ v, parseIntB 64 s.data.toList ≠ .ok v) → parseIntB 64 s.data.toList ≠ .range → w.cell? ⟨gS, 0, none⟩ = some (.iface te pe) → Calls P f #[.string s, .int .i64 10, .int .i64 64] w fun e w' => ∃ N, e = .returned (.tuple #[.int .i64 0, .iface T (.pointer (some ⟨N, 0, none⟩))]) ∧ w.heap.size ≤ N ∧ w'.heap[N]? = some (.cells #[.string ⟨#[80, 97, 114, 115, 101, 73, 110, 116]⟩, .string s, .iface te pe] q (0, 0)) ∧ Below w.heap.size w w') ∧
    (∀ te pe, parseIntB 64 s.data.toList = .range → w.cell? ⟨gR, 0, none⟩ = some (.iface te pe) → Calls P f #[.string s, .int .i64 10, .int .i64 64] w fun e w' => ∃ N, e = .returned (.tuple #[.int .i64 (intSat 64 s.data.toList), .iface T (.pointer (some ⟨N, 0, none⟩))]) ∧ w.heap.size ≤ N ∧ w'.heap[N]? = some (.cells #[.string ⟨#[80, 97, 114, 115, 101, 73, 110, 116]⟩, .string s, .iface te pe] q (0, 0)) ∧ Below w.heap.size w w')
/-- the lay in which new cells that nobody owns are not written -/
def immL (L : Lay) (lo hi : Nat) : Lay where
  loc := L.loc
  ext := L.ext
  fam := L.fam
  who r o := if lo ≤ r ∧ r < hi then .imm else L.who r o
theorem imm_post {B : Nat} {w0 : World} {L : Lay} {w w' : World} {hp : List Blk} (h : Inv C.glob B w0 L w hp) (hb : Below w.heap.size w w') {v : AV} {rv : Value} (hv : Inv C.glob B w0 (immL L w.heap.size w'.heap.size) w' hp → VR hp.length (immL L w.heap.size w'.heap.size) w' v rv) :
    CallPost C B w0 L w hp.length v hp (.returned rv) w' := by
  have hw : ∀ {r o}, L.who r o ≠ .none → (immL L w.heap.size w'.heap.size).who r o = L.who r o := fun {r o} hne => by
    show (if _ then _ else _) = _
    rw [if_neg]
    rintro ⟨h1, _⟩
    exact hne (h.fresh r o h1)
  have hext : ∀ n, Ext n L w (immL L w.heap.size w'.heap.size) w' := fun n => by
    have g := ext_grow (n := n) h hb
    exact ⟨fun r o hr => ⟨(hw (by rw [hr]; simp)).trans hr, (g.imm r o hr).2⟩, fun b p hb' hp' => ⟨hp', fun r o hr => (hw (by rw [hr]; simp)).trans hr, rfl⟩, fun g F _ hF => ⟨F, hF, .inl rfl⟩, hb.size, fun r o hr => frozen_of_block (hb.block r hr), fun r o hr hn => by
      show (if _ then _ else _) = _
      rw [if_neg (by omega)]; exact hn⟩
  have hI : Inv C.glob B w0 (immL L w.heap.size w'.heap.size) w' hp := by
    have g := inv_grow h hb
    refine ⟨g.below, g.size, fun b cs hc => ?_, fun r o b hr => ?_, fun gg m hm => ?_, fun r o gg hr => ?_, fun r o hr => ?_, g.noLoc, g.noFam, fun gg v hg => (h.globs gg v hg).mono (Nat.le_refl _) (hext 0), h.objs.keep (hext _) (fun _ _ _ _ => rfl) (KeepO.of fun r hr => hb.block r hr) (fun _ _ h => h) (Nat.le_refl _), g.kept⟩
    · obtain ⟨p, h1, h2, h3⟩ := h.blks b cs hc
      refine ⟨p, h1, h2, fun j c hj => ?_⟩
      obtain ⟨k1, k2, rv, k3, k4⟩ := h3 j c hj
      exact ⟨(hw (by rw [k1]; simp)).trans k1, k2, rv, (cell_of_block (hb.block _ (low k3))).trans k3, k4.mono (Nat.le_refl _) (hext _)⟩
    · refine g.own r o b ?_
      revert hr
      show (if _ then _ else _) = _ → _
      split
      · intro hr; cases hr
      · exact id
    · obtain ⟨F, h1, h2, h3, h4, h5⟩ := g.fams gg m hm
      exact ⟨F, h1, h2, h3, h4, fun j h6 h7 => (hw (by rw [h5 j h6 h7]; simp)).trans (h5 j h6 h7)⟩
    · refine g.spare r o gg ?_
      revert hr
      show (if _ then _ else _) = _ → _
      split
      · intro hr; cases hr
      · exact id
    · show (if _ then _ else _) = _
      rw [if_neg (by omega)]
      exact h.fresh r o (Nat.le_trans hb.size hr)
  exact ⟨rv, _, rfl, hI, hext _, fun r o t hr hl => ⟨(hw (by rw [hl]; simp)).trans hl, cell_of_block (hb.block _ hr), frozen_of_block (hb.block _ hr)⟩, hb.size, Nat.le_refl _, hv hI⟩
theorem iface_of {n : Nat} {L : Lay} {w : World} {te : TypeId} {x : AV} {v : Value} (h : VR n L w (.iface te x) v) : ∃ p, v = .iface te p := by
  cases h with | iface _ _ p _ => exact ⟨p, rfl⟩
theorem glob_one {B : Nat} {w0 w : World} {L : Lay} {hp : List Blk} {g : Nat} {te : TypeId} {x : AV} (hI : Inv C.glob B w0 L w hp) (hg : C.glob g = some (.iface te x)) : ∃ pe, w.cell? ⟨g, 0, none⟩ = some (.iface te pe) ∧ VR 0 L w (.iface te x) (.iface te pe) := by
  have := hI.globs g _ hg
  cases this with
  | rop _ _ _ cv k1 k2 k3 =>
    have e1 := (k1 0 (by simp [AV.cells])).1
    have e2 := k3 0 (.iface te x) rfl
    obtain ⟨p, hp⟩ := iface_of e2
    rw [hp] at e1 e2
    exact ⟨p, e1, e2⟩
theorem err_vr {n N : Nat} {L : Lay} {w w' : World} {T q : TypeId} {s : ByteArray} {te : TypeId} {pe : Value} {x : AV} (h1 : w.heap.size ≤ N) (h2 : w'.heap[N]? = some (.cells #[.string ⟨#[80, 97, 114, 115, 101, 73, 110, 116]⟩, .string s, .iface te pe] q (0, 0))) (h3 : VR n (immL L w.heap.size w'.heap.size) w' (.iface te x) (.iface te pe)) :
    VR n (immL L w.heap.size w'.heap.size) w' (.iface T (.rop (.agg [.str txPI, .str s.data.toList, .iface te x]))) (.iface T (.pointer (some ⟨N, 0, none⟩))) := by
  have hN : N < w'.heap.size := by
    rcases Nat.lt_or_ge N w'.heap.size with h' | h'
    · exact h'
    · rw [Array.getElem?_eq_none h'] at h2; cases h2
  refine .iface _ _ _ (.rop _ N 0 (fun j => (#[Value.string ⟨#[80, 97, 114, 115, 101, 73, 110, 116]⟩, .string s, .iface te pe][j]?).getD .nilIface) (fun j hj => ⟨?_, ?_⟩) (fun j c hc => ?_) (fun j c hc => ?_))
  · simp [AV.cells] at hj
    unfold World.cell?
    simp only [h2]
    obtain rfl | rfl | rfl : j = 0 ∨ j = 1 ∨ j = 2 := by omega
    all_goals rfl
  · show (if _ then _ else _) = _
    rw [if_pos ⟨h1, hN⟩]
  · obtain rfl | rfl | rfl | h : j = 0 ∨ j = 1 ∨ j = 2 ∨ 3 ≤ j := by omega
    · cases hc; rfl
    · cases hc; rfl
    · cases hc; rfl
    · simp [AV.cells] at hc
      rw [List.getElem?_eq_none (by simpa using h)] at hc
      cases hc
  · obtain rfl | rfl | rfl | h : j = 0 ∨ j = 1 ∨ j = 2 ∨ 3 ≤ j := by omega
    · cases hc; exact .str _ _ rfl
    · cases hc; exact .str _ _ rfl
    · cases hc; exact h3
    · simp [AV.cells] at hc
      rw [List.getElem?_eq_none (by simpa using h)] at hc
      cases hc
theorem tup2 {n : Nat} {L : Lay} {w : World} {a b : AV} {x y : Value} (h1 : VR n L w a x) (h2 : VR n L w b y) : VR n L w (.tup [a, b]) (.tuple #[x, y]) := by
  refine .tup _ _ rfl fun i c hi => ?_
  obtain rfl | rfl | h : i = 0 ∨ i = 1 ∨ 2 ≤ i := by omega
  · cases hi; exact h1
  · cases hi; exact h2
  · rw [List.getElem?_eq_none (by simpa using h)] at hi; cases hi
theorem extPI_ok {f : FuncId} {fn : Func} {T q tS tR : TypeId} {gS gR : Nat} {xS xR : AV} (hf : P.funcs[f]? = some fn) (hb : fn.body.isSome = true) (hname : (fn.name == "runtime.NumGoroutine") = false) (hS : ParseSays P f T q gS gR) (hgS : C.glob gS = some (.iface tS xS)) (hgR : C.glob gR = some (.iface tR xR))
    (args : List AV) (v : AV) (hp : List Blk) (hv : extPI T (.iface tS xS) (.iface tR xR) args = some v) (B : Nat) (w0 : World) (L : Lay) (w : World) (rargs : List Value) (hI : Inv C.glob B w0 L w hp) (hA : CR hp.length L w args rargs) :
    FCalls P f rargs.toArray w (CallPost C B w0 L w hp.length v hp) := by
  refine fcalls_calls hf hb hname ?_
  unfold extPI at hv
  split at hv
  · rename_i s b z
    simp only [cond_eq_ite] at hv
    split at hv
    · rename_i hc
      simp only [decide_eq_true_eq, Bool.and_eq_true] at hc
      obtain ⟨rfl, rfl, c1⟩ := hc
      obtain ⟨hl, hA⟩ := hA
      obtain ⟨r0, r1, r2, rfl⟩ : ∃ r0 r1 r2, rargs = [r0, r1, r2] := by
        match rargs, hl with
        | [a, b, c], _ => exact ⟨a, b, c, rfl⟩
      have h0 := hA 0 _ r0 rfl rfl
      have h1 := hA 1 _ r1 rfl rfl
      have h2 := hA 2 _ r2 rfl rfl
      cases h0 with | str _ bs hs => ?_
      cases h1 with | int _ _ => ?_
      cases h2 with | int _ _ => ?_
      subst hs
      obtain ⟨S1, S2, S3⟩ := hS bs w (by simpa using c1)
      split at hv
      · rename_i u hu
        cases hv
        refine Calls.mono (S1 u hu) fun e w' ⟨he, hw⟩ => ?_
        subst he
        exact grow_post hI hw (tup2 (.int _ _) .nilI)
      · rename_i hu
        cases hv
        obtain ⟨pe, k1, _⟩ := glob_one hI hgR
        refine Calls.mono (S3 tR pe hu k1) fun e w' ⟨N, he, h3, h4, hw⟩ => ?_
        subst he
        refine imm_post hI hw fun hI' => ?_
        obtain ⟨pe', k3, k4⟩ := glob_one hI' hgR
        have : w'.cell? ⟨gR, 0, none⟩ = w.cell? ⟨gR, 0, none⟩ := cell_of_block (hw.block _ (low k1))
        rw [this, k1] at k3
        cases k3
        exact tup2 (.int _ _) (err_vr h3 h4 (k4.mono (Nat.zero_le _) (Ext.refl 0 _ _)))
      · rename_i hu1 hu2
        cases hv
        obtain ⟨pe, k1, _⟩ := glob_one hI hgS
        refine Calls.mono (S2 tS pe (fun v h => hu1 v h) (fun h => hu2 h) k1) fun e w' ⟨N, he, h3, h4, hw⟩ => ?_
        subst he
        refine imm_post hI hw fun hI' => ?_
        obtain ⟨pe', k3, k4⟩ := glob_one hI' hgS
        have : w'.cell? ⟨gS, 0, none⟩ = w.cell? ⟨gS, 0, none⟩ := cell_of_block (hw.block _ (low k1))
        rw [this, k1] at k3
        cases k3
        exact tup2 (.int _ _) (err_vr h3 h4 (k4.mono (Nat.zero_le _) (Ext.refl 0 _ _)))
    · cases hv
  · cases hv
end
theorem tab_glob {P:Program} {W:World} {name:String} {g:Nat} {k:IntKind} {zs:List Int} (hn:P.globalNamed name=some g) (h:TabIs P W name k zs):GlobOK W g (tabAV k zs):=by
 unfold TabIs World.var? at h
 rw [hn] at h
 simp only [Option.bind_some] at h
 cases ho:W.heap[g]? with
 | none=>rw [ho] at h;cases h
 | some o =>
  rw [ho] at h
  cases o with
  | cells cs t q =>
   simp only [Option.some.injEq] at h
   subst h
   have hc:∀ j,W.cell? ⟨g,0 + j,none⟩=(zs.map fun z=>Value.int k z).toArray[j]?:=fun j=>by
    unfold World.cell?
    simp [ho]
   refine ⟨.rop _ g 0 (fun j => .int k (zs.getD j 0)) (fun j hj => ?_) (fun j c hc => ?_) (fun j c hc => ?_),_,t,q,ho,by simp [tabAV,AV.cells]⟩
   ·have hj':j < zs.length:=by simpa [tabAV,AV.cells] using hj
    have e:W.cell? ⟨g,0 + j,none⟩=some (.int k (zs.getD j 0)):=by
     rw [hc j]
     simp [List.getD_eq_getElem?_getD,hj']
    exact ⟨e,imm0 e⟩
   ·simp only [tabAV,AV.cells,List.getElem?_map,Option.map_eq_some_iff] at hc
    obtain ⟨z,_,rfl⟩:=hc
    rfl
   ·simp only [tabAV,AV.cells,List.getElem?_map,Option.map_eq_some_iff] at hc
    obtain ⟨z,hz,rfl⟩:=hc
    rw [List.getD_eq_getElem?_getD,hz]
    exact .int _ _
  | _=>simp at h
theorem err_glob {P:Program} {W:World} {n:String} {g tp:Nat} {a:Addr} {s:ByteArray} {text:List UInt8} (hn:P.globalNamed n=some g) (h1:W.var? P n=some #[.iface tp (.pointer (some a))]) (h2:W.cell? a=some (.string s)) (hs:s.data.toList=text):GlobOK W g (.iface tp (.rop (.agg [.str text]))):=by
 have hv:=h1
 unfold World.var? at h1
 rw [hn] at h1
 simp only [Option.bind_some] at h1
 cases ho:W.heap[g]? with
 | none=>rw [ho] at h1;cases h1
 | some o =>
  rw [ho] at h1
  cases o with
  | cells cs t q =>
   simp only [Option.some.injEq] at h1
   subst h1
   refine ⟨sentinel_vr ?_ h2 hs,_,t,q,ho,by simp [AV.cells]⟩
   unfold World.cell?
   simp [ho]
  | _=>simp at h1
end Go.Proofs.YtgbheglnmdnkoaaGreatDoor.E
