/- Steps of the seat's proofs: an evaluator of the program's code, its soundness, and what the functions come to. -/
import Derived.Test.YtgbheglnmdnkoaaGreatDoorEab
import Derived.LoopN
set_option linter.unusedSimpArgs false
set_option linter.unusedVariables false
namespace Go.Proofs.YtgbheglnmdnkoaaGreatDoor.E
open Go Go.RowKit Go.Lib
section
variable {P:Program} {C:Cfg}
theorem CR.app {n:Nat} {L:Lay} {w:World} {xs ys:List AV} {vs us:List Value} (h:CR n L w xs vs) (k:CR n L w ys us):CR n L w (xs++ys) (vs++us) :=
 ⟨by simp [h.1,k.1],fun i x v hx hv=>by
  rw [List.getElem?_append] at hx hv
  rw [h.1] at hv
  split at hx
  ·rename_i hlt;rw [if_pos hlt] at hv;exact h.2 i x v hx hv
  ·rename_i hlt;rw [if_neg hlt] at hv;exact k.2 _ x v hx hv⟩
theorem CR.of_arr {n:Nat} {L:Lay} {w:World} {xs:List AV} {c:Array Value} (hl:c.size=xs.length) (h:∀ (i:Nat) x,xs[i]?=some x→VR n L w x (c.getD i default)):CR n L w xs c.toList :=
 ⟨by simp [hl],fun i x v hx hv=>by
  have:=h i x hx
  rw [Array.getElem?_toList] at hv
  rw [Array.getD_eq_getD_getElem?,hv] at this
  exact this⟩
theorem CR.arr {n:Nat} {L:Lay} {w:World} {xs:List AV} {c:Array Value} (h:CR n L w xs c.toList):c.size=xs.length∧∀ (i:Nat) x,xs[i]?=some x→VR n L w x (c.getD i default):=by
 have hl:c.size=xs.length:=by have:=h.1;simpa using this
 refine ⟨hl,fun i x hx => ?_⟩
 have hlt:i < c.size:=by rw [hl];exact (List.getElem?_eq_some_iff.1 hx).1
 have:=h.2 i x c[i] hx (by simp [hlt])
 simpa [Array.getD,hlt] using this
section
variable {B base:Nat} {w0 w:World} {L:Lay} {st:St} {rt:Array Value} {ds:List Deferred}
theorem optV_ok (hI:Inv C.glob B w0 L w st.hp) (hF:FR st.hp.length L w base st.tmps rt) {x:Option Operand} {a:Option AV} (h:optV C st.tmps x=some a) :
  OVR st.hp.length L w a (x.map ({ tmps:=rt,defers:=ds }:Act).eval):=by
 cases x with
 | none=>simp only [optV,Option.some.injEq] at h;subst h;trivial
 | some x =>
  simp only [optV,Option.map_eq_some_iff] at h
  obtain ⟨y,hy,rfl⟩:=h
  exact opv_ok hI hF hy
theorem opnd_notBx {x:Operand} {tv:TV} (h:opnd C st.tmps x=some tv):∀ cs,tv ≠ .bx cs:=by
 intro cs hc
 subst hc
 cases x with
 | tmp t =>
  simp only [opnd] at h
  split at h
  ·cases h
  ·rename_i y hb hy;cases h;exact hb cs rfl
  ·cases h
 | const v=>simp only [opnd,Option.map_eq_some_iff] at h;obtain ⟨_,_,h⟩:=h;cases h
 | global g=>simp only [opnd,Option.map_eq_some_iff] at h;obtain ⟨_,_,h⟩:=h;cases h
 | func f=>simp only [opnd,Option.some.injEq] at h;cases h
theorem pureR_eq {x:TV} {r:Res} (h:pureR st x=some r):r=⟨x,st.tmps,st.hp, .z⟩:=(Option.some.inj h).symm
theorem ofO_eq {x:Option AV} {r:Res} (h:ofO st x=some r):∃ a,x=some a∧r=⟨.v a,st.tmps,st.hp, .z⟩:=by
 cases x with
 | none=>cases h
 | some a=>exact ⟨a,rfl,(Option.some.inj h).symm⟩
theorem builtin_value {b:Builtin} {c:Call} {o:Oper} {s:Sem Value} {rv:Value} {w':World} (ho:o.op = .call c) (hc:c.callee = .builtin b)
  (hb:∀ cs,builtin b c.argTypes o.type cs (c.args.map ({ tmps:=rt,defers:=ds }:Act).eval)=(do pure (.value (← s)))) (hs:s.run P w = .ok rv w') :
  (execOp ({ tmps:=rt,defers:=ds }:Act).eval o).run P w = .ok (.value rv) w':=by
 unfold execOp
 simp only [ho,resolve,hc,Sem.run_bind,Sem.run_pure,Result.andThen_ok,invoke,hb,hs]
theorem builtin_ok {fl:Nat} {arrM:Bool} {o:Oper} {c:Call} {b:Builtin} {args:List AV} {r:Res} {ts':List TV} {K:Act→World→Prop} {Q:Exit→Act→World→Prop} (hT:TysOK P C)
  (hI:Inv C.glob B w0 L w st.hp) (hF:FR st.hp.length L w base st.tmps rt) (hput:put r.tmps o.dst r.val=some ts')
  (hK:∀ a' w',Post C B w0 base L w st.hp.length r.hp ts' ds a' w'→K a' w') (hop:o.op = .call c) (hc:c.callee = .builtin b)
  (hcr:CR st.hp.length L w args (c.args.map ({ tmps:=rt,defers:=ds }:Act).eval).toList) (h:builtinE C fl arrM st b c.argTypes.toList args=some r):o.wp P { tmps:=rt,defers:=ds } w K Q:=by
 generalize hts:c.argTypes.toList=tys at h
 have hta:c.argTypes=tys.toArray:=by rw [← hts]
 generalize hra:c.args.map ({ tmps:=rt,defers:=ds }:Act).eval=ra at hcr
 have run:∀ {s:Sem Value} {rv:Value} {w':World},(∀ cs,builtin b c.argTypes o.type cs ra=(do pure (.value (← s))))→s.run P w = .ok rv w'→(execOp ({ tmps:=rt,defers:=ds }:Act).eval o).run P w = .ok (.value rv) w':=fun h1 h2 =>
  builtin_value hop hc (fun cs=>by rw [hra];exact h1 cs) h2
 have one:∀ x,args=[x]→∃ v,ra = #[v]∧VR st.hp.length L w x v:=fun x hx=>by
  subst hx
  have hl:=hcr.1
  match hq:ra.toList,hl with
  | [v],_ =>
   rw [hq] at hcr
   exact ⟨v,by rw [← Array.toArray_toList (xs:=ra),hq],hcr.2 0 x v rfl rfl⟩
 have two:∀ x y,args=[x,y]→∃ v u,ra = #[v,u]∧VR st.hp.length L w x v∧VR st.hp.length L w y u:=fun x y hx=>by
  subst hx
  have hl:=hcr.1
  match hq:ra.toList,hl with
  | [v,u],_ =>
   rw [hq] at hcr
   exact ⟨v,u,by rw [← Array.toArray_toList (xs:=ra),hq],hcr.2 0 x v rfl rfl,hcr.2 1 y u rfl rfl⟩
 unfold builtinE at h
 split at h
 ·rename_i t ts x
  obtain ⟨v,hv,hvr⟩:=one x rfl
  obtain ⟨a,ha,rfl⟩:=ofO_eq h
  simp only [Option.map_eq_some_iff] at ha
  obtain ⟨m,hm,rfl⟩:=ha
  exact fin_pure hI hF hput hK (run (fun cs=>by rw [hv,hta];rfl) (len_ok (ty:=o.type) hT hm hvr)) rfl rfl (.int _ _) (fun _ h=>by cases h)
 ·rename_i t ts x
  obtain ⟨v,hv,hvr⟩:=one x rfl
  obtain ⟨a,ha,rfl⟩:=ofO_eq h
  simp only [Option.map_eq_some_iff] at ha
  obtain ⟨m,hm,rfl⟩:=ha
  exact fin_pure hI hF hput hK (run (fun cs=>by rw [hv,hta];rfl) (cap_ok (ty:=o.type) hT hm hvr)) rfl rfl (.int _ _) (fun _ h=>by cases h)
 ·rename_i t t2 ts s x
  obtain ⟨v,u,hv,hvr,hur⟩:=two s x rfl
  obtain ⟨w',rv,h1,h2⟩:=appendE_ok (ty:=o.type) (ts:=ts) hT hI h hvr hur
  exact fin_comes hF hput hK (run (fun cs=>by rw [hv,hta];rfl) h1) h2
 ·rename_i t ts d x
  obtain ⟨v,u,hv,hvr,hur⟩:=two d x rfl
  obtain ⟨w',rv,h1,h2⟩:=copyE_ok (ty:=o.type) (ts:=ts) hT hI h hvr hur
  exact fin_comes hF hput hK (run (fun cs=>by rw [hv,hta];rfl) h1) h2
 ·rename_i t ts d
  obtain ⟨v,hv,hvr⟩:=one d rfl
  obtain ⟨w',rv,h1,h2⟩:=clearE_ok (ty:=o.type) (ts:=ts) hT hI h hvr
  exact fin_comes hF hput hK (run (fun cs=>by rw [hv,hta];rfl) h1) h2
 ·obtain ⟨a,ha,rfl⟩:=ofO_eq h
  obtain ⟨rv,h1,h2⟩:=minE_ok (P:=P) ha hcr c.argTypes o.type
  exact fin_pure hI hF hput hK (run (fun cs=>rfl) (by simpa using h1)) rfl rfl h2 (fun _ h=>by cases h)
 ·obtain ⟨a,ha,rfl⟩:=ofO_eq h
  obtain ⟨rv,h1,h2⟩:=minE_ok (P:=P) ha hcr c.argTypes o.type
  exact fin_pure hI hF hput hK (run (fun cs=>rfl) (by simpa using h1)) rfl rfl h2 (fun _ h=>by cases h)
 ·cases h
theorem evOp_ok {fl:Nat} {me:FuncId} {o:Oper} {r:Res} {ts':List TV} {K:Act→World→Prop} {Q:Exit→Act→World→Prop} {call:CallF} (hT:TysOK P C) (hcall:CallOK P C call)
  (hI:Inv C.glob B w0 L w st.hp) (hF:FR st.hp.length L w base st.tmps rt) (hBb:B≤base) (hbw:base≤w.heap.size) (h:evOp C call fl me o st=some r) (hput:put r.tmps o.dst r.val=some ts')
  (hK:∀ a' w',Post C B w0 base L w st.hp.length r.hp ts' ds a' w'→K a' w'):o.wp P { tmps:=rt,defers:=ds } w K Q:=by
 have run1:∀ {s:Sem Value} {rv:Value} {w':World},s.run P w = .ok rv w'→execOp ({ tmps:=rt,defers:=ds }:Act).eval o=(do pure (.value (← s)))→(execOp ({ tmps:=rt,defers:=ds }:Act).eval o).run P w = .ok (.value rv) w':=fun h1 h2=>by
  rw [h2];simp [h1]
 have eqv:∀ x:Operand,({ tmps:=rt,defers:=ds }:Act).eval x=({ tmps:=rt,defers:=ds }:Act).eval x:=fun _=>rfl
 unfold evOp at h
 split at h
 ·-- move
  rename_i x hop
  cases hx:opnd C st.tmps x with
  | none=>rw [hx] at h;cases h
  | some tv =>
   rw [hx] at h
   have:=pureR_eq h;subst this
   exact fin_pure hI hF hput hK (rv:=({ tmps:=rt,defers:=ds }:Act).eval x) (by unfold execOp;simp only [hop];rfl) rfl rfl (opnd_ok hI hF hx) (opnd_notBx hx)
 ·-- assign
  rename_i x hop
  cases hx:opnd C st.tmps x with
  | none=>rw [hx] at h;cases h
  | some tv =>
   rw [hx] at h
   have:=pureR_eq h;subst this
   exact fin_pure hI hF hput hK (rv:=({ tmps:=rt,defers:=ds }:Act).eval x) (by unfold execOp;simp only [hop];rfl) rfl rfl (opnd_ok hI hF hx) (opnd_notBx hx)
 ·-- pick
  rename_i c a b hop
  split at h
  ·rename_i t hc
   have hcv:=boolOf_ok (opv_ok (ds:=ds) hI hF hc)
   cases hx:opnd C st.tmps (bif t then a else b) with
   | none=>rw [hx] at h;cases h
   | some tv =>
    rw [hx] at h
    have:=pureR_eq h;subst this
    refine fin_pure hI hF hput hK (rv:=({ tmps:=rt,defers:=ds }:Act).eval (bif t then a else b)) ?_ rfl rfl (opnd_ok hI hF hx) (opnd_notBx hx)
    unfold execOp
    simp only [hop,hcv,asBool,Sem.run_bind,Sem.run_pure,Result.andThen_ok]
    cases t <;> rfl
  ·cases h
 ·-- alloc
  rename_i e hop
  split at h
  ·cases h
  ·rename_i ti hti
   obtain ⟨i,d,z,hi,hd,hsz,_,hk,hzi,hzs,hzl,hzo,_,_⟩:=(hT _ _ hti).ex
   cases hb:(ti.size==0) with
   | true=>rw [hb] at h;cases h
   | false =>
   rw [hb,cond_false rfl] at h
   split at h
   ·cases h
   ·rename_i dd hdst
    have hz0:=zero_ok st.hp.length L w hzs hzo
    have hrun:(execOp ({ tmps:=rt,defers:=ds }:Act).eval o).run P w = .ok (.value (.pointer (some ⟨w.heap.size,0,none⟩))) (w.alloc (.cells z.cells e)):=by
     unfold execOp
     simp [hop,Instr.alloc,run_zeroValue hi hzi,run_newVar]
    cases hl:bit (C.isLoc me) dd with
    | true =>
     rw [hl,cond_true rfl] at h
     cases h
     obtain ⟨L',k1,k2,k3,k4⟩:=newBox hI hbw hz0 e dd
     refine fin_value hput hK hrun k1 k2 (k3 _) (by simp) (Nat.le_refl _) (hF.mono (Nat.le_refl _) k2 (k3 _) (by simp)) fun d' hd' => ?_
     rw [hdst] at hd';cases hd'
     exact k4
    | false =>
     rw [hl,cond_false rfl] at h
     simp only [newBlk,Option.some.injEq] at h
     subst h
     obtain ⟨L',k0,_,_,k1,k2,k3⟩:=newHeap hI hz0 (alloc_alloc w z.cells e) (fun _ _ h=>h)
     refine fin_value hput hK hrun k1 k2 (k3 _) (by simp) (by simp) (hF.mono (by simp) k2 (k3 _) (by simp)) fun d' hd' => ?_
     exact VR.ptr _ 0 _ (by simp) fun p hp=>by rw [k0] at hp;cases hp;rfl
 ·-- box
  rename_i e x hop
  split at h
  ·rename_i a dd ha hdst
   have hav:=opv_ok (ds:=ds) hI hF ha
   cases hb:(a.cells.length==0 || !a.noTup) with
   | true=>rw [hb] at h;cases h
   | false =>
   rw [hb,cond_false rfl] at h
   simp only [Bool.or_eq_false_iff,Bool.not_eq_false'] at hb
   have hac:=ACR.of_value hav hb.2
   have hrun:(execOp ({ tmps:=rt,defers:=ds }:Act).eval o).run P w = .ok (.value (.pointer (some ⟨w.heap.size,0,none⟩))) (w.alloc (.cells (({ tmps:=rt,defers:=ds }:Act).eval x).cells e)):=by
    unfold execOp
    simp [hop,Instr.box,run_newVar]
   cases hl:bit (C.isLoc me) dd with
   | true =>
    rw [hl,cond_true rfl] at h
    cases h
    obtain ⟨L',k1,k2,k3,k4⟩:=newBox hI hbw hac e dd
    refine fin_value hput hK hrun k1 k2 (k3 _) (by simp) (Nat.le_refl _) (hF.mono (Nat.le_refl _) k2 (k3 _) (by simp)) fun d' hd' => ?_
    rw [hdst] at hd';cases hd'
    exact k4
   | false =>
    rw [hl,cond_false rfl] at h
    simp only [newBlk,Option.some.injEq] at h
    subst h
    obtain ⟨L',k0,_,_,k1,k2,k3⟩:=newHeap hI hac (alloc_alloc w _ e) (fun _ _ h=>h)
    refine fin_value hput hK hrun k1 k2 (k3 _) (by simp) (by simp) (hF.mono (by simp) k2 (k3 _) (by simp)) fun d' hd' => ?_
    exact VR.ptr _ 0 _ (by simp) fun p hp=>by rw [k0] at hp;cases hp;rfl
  ·cases h
 ·-- build
  rename_i t ps hop
  split at h
  ·rename_i ti vs hti hvs
   cases hag:ti.k.agg with
   | false=>rw [hag] at h;cases h
   | true =>
   rw [hag,cond_true rfl] at h
   obtain ⟨a,ha,rfl⟩:=ofO_eq h
   simp only [Option.map_eq_some_iff] at ha
   obtain ⟨cs,hcs,rfl⟩:=ha
   obtain ⟨rv,h1,h2⟩:=build_ok (ds:=ds) hT hI hF hti hag hvs hcs
   exact fin_pure hI hF hput hK (run1 h1 (by unfold execOp;simp only [hop])) rfl rfl h2 (fun _ h=>by cases h)
  ·cases h
 ·-- buildSlice
  rename_i t len ps hop
  split at h
  ·rename_i e _ _ _ _ vs hti hvs
   split at h
   ·cases h
   ·rename_i ei hei
    split at h
    ·cases h
    ·rename_i z hz
     split at h
     ·cases h
     ·rename_i xs hxs
      cases hb:(ei.size==0||decide (16777216 < len * ei.size) || !(z.cells.length==ei.size) || !z.noTup) with
      | true=>rw [hb] at h;cases h
      | false =>
      rw [hb,cond_false rfl] at h
      simp only [Bool.or_eq_false_iff,Bool.not_eq_false',decide_eq_false_iff_not,beq_eq_false_iff_ne,ne_eq,beq_iff_eq] at hb
      obtain ⟨⟨⟨h0,hle⟩,hzl⟩,hzt⟩:=hb
      cases hbb:C.arrB me with
      | false =>
       rw [hbb,cond_false rfl] at h
       obtain ⟨a,ha,rfl⟩:=ofO_eq h
       cases ha
       obtain ⟨w',L',h1,h2,h3,h4,h5,h6⟩:=buildSlice_ok (ds:=ds) hT hI hF hti hei hz hvs hzl hzt h0 (by omega) hxs
       exact fin_comes hF hput hK (run1 h1 (by unfold execOp;simp only [hop])) ⟨L',_,rfl,rfl,h2,h3,h4,h5,Nat.le_refl _,h6⟩
      | true =>
       rw [hbb,cond_true rfl] at h
       simp only [newBlk,Option.some.injEq] at h
       subst h
       obtain ⟨w',rv,g1,g2⟩:=buildSliceB_ok (ds:=ds) hT hI hF hti hei hz hvs hzl hzt h0 (by omega) hxs
       exact fin_comes hF hput hK (run1 g1 (by unfold execOp;simp only [hop])) g2
  ·cases h
 ·-- load
  rename_i t x hop
  cases hx:opnd C st.tmps x with
  | none=>rw [hx] at h;cases h
  | some tv =>
   rw [hx] at h
   obtain ⟨h1,h2,y,rv,h3,h4,h5⟩:=loadAt_ok hT hI hF h (opnd_ok (ds:=ds) hI hF hx)
   exact fin_pure hI hF hput hK (run1 h4 (by unfold execOp;simp only [hop])) h1 h2 (by rw [h3];exact h5) (fun _ hh=>by rw [h3] at hh;cases hh)
 ·-- store
  rename_i t x y hop
  split at h
  ·rename_i tv a hx hy
   obtain ⟨w',h1,h2,h3,h4,h5,h6,h7,h8⟩:=storeAt_ok hT hI hF hBb h (opnd_ok (ds:=ds) hI hF hx) (opv_ok (ds:=ds) hI hF hy)
   unfold Oper.wp
   have hrun:(execOp ({ tmps:=rt,defers:=ds }:Act).eval o).run P w = .ok .skip w':=by
    unfold execOp;simp [hop,h1]
   rw [hrun]
   refine hK _ _ ⟨L,h3,h4,h5,h6,h7,put_ok hput h8 fun d _ => ?_,put_act _ _⟩
   rw [h2];rfl
  ·cases h
 ·-- nilCheck
  rename_i x hop
  have hrun:∀ rv,({ tmps:=rt,defers:=ds }:Act).eval x=rv→(∀ a,rv = .pointer (some a)∨(∃ f p q,rv = .func (.func f) p q)∨rv ≠ .pointer (some a))→True:=fun _ _ _=>trivial
  split at h
  ·rename_i s o' hx
   have:=pureR_eq h;subst this
   have ho:=opnd_ok (ds:=ds) hI hF hx
   obtain ⟨rb,g1,g2,g3⟩:=ho
   refine fin_pure hI hF hput hK (rv:=({ tmps:=rt,defers:=ds }:Act).eval x) ?_ rfl rfl ⟨rb,g1,g2,g3⟩ (fun _ h=>by cases h)
   unfold execOp;simp only [hop,g2];rfl
  ·rename_i b o' hx
   have:=pureR_eq h;subst this
   have ho:=opnd_ok (ds:=ds) hI hF hx
   refine fin_pure hI hF hput hK (rv:=({ tmps:=rt,defers:=ds }:Act).eval x) ?_ rfl rfl ho (fun _ h=>by cases h)
   obtain ⟨a,ha⟩:∃ a,({ tmps:=rt,defers:=ds }:Act).eval x = .pointer (some a):=by
    generalize ({ tmps:=rt,defers:=ds }:Act).eval x=q at ho
    cases ho;exact ⟨_,rfl⟩
   unfold execOp;simp only [hop,ha];rfl
  ·rename_i v hx
   have:=pureR_eq h;subst this
   have ho:=opnd_ok (ds:=ds) hI hF hx
   refine fin_pure hI hF hput hK (rv:=({ tmps:=rt,defers:=ds }:Act).eval x) ?_ rfl rfl ho (fun _ h=>by cases h)
   obtain ⟨a,ha⟩:∃ a,({ tmps:=rt,defers:=ds }:Act).eval x = .pointer (some a):=by
    generalize ({ tmps:=rt,defers:=ds }:Act).eval x=q at ho
    cases ho;exact ⟨_,rfl⟩
   unfold execOp;simp only [hop,ha];rfl
  ·rename_i f a b hx
   have:=pureR_eq h;subst this
   have ho:=opnd_ok (ds:=ds) hI hF hx
   refine fin_pure hI hF hput hK (rv:=({ tmps:=rt,defers:=ds }:Act).eval x) ?_ rfl rfl ho (fun _ h=>by cases h)
   obtain ⟨p,q,ha⟩:∃ p q,({ tmps:=rt,defers:=ds }:Act).eval x = .func (.func f) p q:=by
    generalize ({ tmps:=rt,defers:=ds }:Act).eval x=q at ho
    cases ho;exact ⟨_,_,rfl⟩
   unfold execOp;simp only [hop,ha];rfl
  ·cases h
 ·-- binOp
  rename_i op t x y yt hop
  split at h
  ·rename_i a b ha hb
   obtain ⟨z,hz,rfl⟩:=ofO_eq h
   obtain ⟨rv,h1,h2⟩:=binE_ok hT hz (opv_ok (ds:=ds) hI hF ha) (opv_ok (ds:=ds) hI hF hb)
   exact fin_pure hI hF hput hK (run1 h1 (by unfold execOp;simp only [hop])) rfl rfl h2 (fun _ h=>by cases h)
  ·cases h
 ·-- unOp
  rename_i op t x hop
  split at h
  ·rename_i a ha
   obtain ⟨z,hz,rfl⟩:=ofO_eq h
   obtain ⟨rv,h1,h2⟩:=unE_ok (P:=P) hz (opv_ok (ds:=ds) hI hF ha)
   exact fin_pure hI hF hput hK (run1 h1 (by unfold execOp;simp only [hop])) rfl rfl h2 (fun _ h=>by cases h)
  ·cases h
 ·-- convert
  rename_i s d x hop
  split at h
  ·rename_i a ha
   obtain ⟨w',rv,h1,h2⟩:=convE_ok hT hI h (opv_ok (ds:=ds) hI hF ha)
   exact fin_comes hF hput hK (run1 h1 (by unfold execOp;simp only [hop])) h2
  ·cases h
 ·-- makeInterface
  rename_i t x hop
  split at h
  ·rename_i ti a hti ha
   obtain ⟨i,d,z,hi,hd,hsz,_,hk, -⟩:=(hT _ _ hti).ex
   have hni:∀ ms,d ≠ .interface ms:=fun ms hm=>by
    subst hm
    rw [hk] at h
    simp only [tkOf,reduceCtorEq] at h
   have hr:ofO st (some (.iface t a))=some r:=by
    cases hkk:ti.k <;> rw [hkk] at h <;> first | exact h | cases h
   obtain ⟨z',hz',rfl⟩:=ofO_eq hr
   cases hz'
   refine fin_pure hI hF hput hK (rv := .iface t (({ tmps:=rt,defers:=ds }:Act).eval x)) (run1 (s:=Instr.makeInterface t (({ tmps:=rt,defers:=ds }:Act).eval x)) ?_ (by unfold execOp;simp only [hop])) rfl rfl (.iface _ _ _ (opv_ok (ds:=ds) hI hF ha)) (fun _ h=>by cases h)
   simp only [Instr.makeInterface,Sem.run_bind,run_underlying hd,Result.andThen_ok]
   cases d <;> first | rfl | exact absurd rfl (hni _)
  ·cases h
 ·-- makeFunc
  rename_i f first captured hop
  split at h
  ·rename_i a b ha hb
   obtain ⟨z,hz,rfl⟩:=ofO_eq h
   cases hz
   obtain ⟨l1,e1⟩:=(mapO_opv (ds:=ds) hI hF first ha).arr
   obtain ⟨l2,e2⟩:=(mapO_opv (ds:=ds) hI hF captured hb).arr
   refine fin_pure hI hF hput hK (rv := .func f (first.map ({ tmps:=rt,defers:=ds }:Act).eval) (captured.map ({ tmps:=rt,defers:=ds }:Act).eval)) ?_ rfl rfl (.fn _ _ _ _ _ l1 l2 e1 e2) (fun _ h=>by cases h)
   unfold execOp;simp [hop,Instr.makeFunc]
  ·cases h
 ·-- makeSlice
  rename_i t l c hop
  split at h
  ·rename_i e _ _ _ _ k n k' m hti hl hc
   split at h
   ·cases h
   ·rename_i ei hei
    cases hb:(decide (0≤n)&&decide (n≤m)&&decide (m * ei.bytes≤140737488355328) && !(ei.size==0) && !(ei.bytes==0)) with
    | false=>rw [hb] at h;cases h
    | true =>
    rw [hb,cond_true rfl] at h
    simp only [Bool.and_eq_true,decide_eq_true_eq,Bool.not_eq_true',beq_eq_false_iff_ne,ne_eq] at hb
    obtain ⟨⟨⟨⟨h1,h2⟩,h3⟩,h4⟩,h5⟩:=hb
    simp only [newBlk,Option.some.injEq] at h
    subst h
    have hlv:=intOf_ok (opv_ok (ds:=ds) hI hF hl)
    have hcv:=intOf_ok (opv_ok (ds:=ds) hI hF hc)
    obtain ⟨w',rv,g1,g2⟩:=makeSlice_ok hT hI hti hei (k:=k) (k':=k') h1 h2 h3 h4 h5
    exact fin_comes hF hput hK (run1 g1 (by unfold execOp;simp only [hop,hlv,hcv])) g2
  ·cases h
 ·-- slice
  rename_i t x lo hi mx hop
  split at h
  ·rename_i a l hh m ha hl hhh hm
   simp only [Option.map_eq_some_iff] at h
   obtain ⟨z,hz,rfl⟩:=h
   obtain ⟨rv,h1,h2⟩:=sliceE_ok hT hI hz (opnd_ok (ds:=ds) hI hF ha) (optV_ok (ds:=ds) hI hF hl) (optV_ok (ds:=ds) hI hF hhh) (optV_ok (ds:=ds) hI hF hm)
   exact fin_pure hI hF hput hK (run1 h1 (by unfold execOp;simp only [hop])) rfl rfl h2 (fun _ h=>by cases h)
  ·cases h
 ·-- fieldAddr
  rename_i t x f hop
  split at h
  ·rename_i a ha
   cases hfa:fieldAddr C t f a with
   | none=>rw [hfa] at h;cases h
   | some tv =>
    rw [hfa] at h
    have:=pureR_eq h;subst this
    obtain ⟨rv,h1,h2,h3⟩:=fieldAddr_ok (P:=P) hT hfa (opnd_ok (ds:=ds) hI hF ha)
    exact fin_pure hI hF hput hK (run1 h1 (by unfold execOp;simp only [hop])) rfl rfl h2 h3
  ·cases h
 ·-- field
  rename_i t x f hop
  split at h
  ·rename_i cs ha
   split at h
   ·rename_i off ti hfd
    obtain ⟨z,hz,rfl⟩:=ofO_eq h
    obtain ⟨fs,fd,h1,h2,h3,h4⟩:=field_ok hT hfd
    have hav:=opv_ok (ds:=ds) hI hF ha
    obtain ⟨rc,hrc⟩:∃ rc,({ tmps:=rt,defers:=ds }:Act).eval x = .agg rc:=by
     generalize ({ tmps:=rt,defers:=ds }:Act).eval x=q at hav
     cases hav;exact ⟨_,rfl⟩
    rw [hrc] at hav
    subst h3
    obtain ⟨rv,h5,h6⟩:=part_ok (hT _ _ h4) hz hav
    refine fin_pure hI hF hput hK (run1 (s:=Instr.field t (.agg rc) f) ?_ (by unfold execOp;simp only [hop,hrc])) rfl rfl h6 (fun _ h=>by cases h)
    simp [Instr.field,run_underlying h1,h2,asAgg,h5]
   ·cases h
  ·cases h
 ·-- indexAddr
  rename_i t x i hop
  split at h
  ·rename_i a k n ha hn
   cases hfa:indexAddr C t a n with
   | none=>rw [hfa] at h;cases h
   | some tv =>
    rw [hfa] at h
    have:=pureR_eq h;subst this
    have hiv:=intOf_ok (opv_ok (ds:=ds) hI hF hn)
    obtain ⟨rv,h1,h2,h3⟩:=indexAddr_ok (P:=P) (k:=k) hT hfa (opnd_ok (ds:=ds) hI hF ha)
    exact fin_pure hI hF hput hK (run1 h1 (by unfold execOp;simp only [hop,hiv])) rfl rfl h2 h3
  ·cases h
 ·-- index
  rename_i t x i hop
  split at h
  ·rename_i a k n ha hn
   obtain ⟨z,hz,rfl⟩:=ofO_eq h
   have hiv:=intOf_ok (opv_ok (ds:=ds) hI hF hn)
   obtain ⟨rv,h1,h2⟩:=indexE_ok (P:=P) (k:=k) hT hz (opv_ok (ds:=ds) hI hF ha)
   exact fin_pure hI hF hput hK (run1 h1 (by unfold execOp;simp only [hop,hiv])) rfl rfl h2 (fun _ h=>by cases h)
  ·cases h
 ·-- extract
  rename_i x i hop
  split at h
  ·rename_i vs ha
   obtain ⟨z,hz,rfl⟩:=ofO_eq h
   have hav:=opv_ok (ds:=ds) hI hF ha
   have hz:=getAt_some hz
   obtain ⟨rc,hrc⟩:∃ rc,({ tmps:=rt,defers:=ds }:Act).eval x = .tuple rc:=by
    generalize ({ tmps:=rt,defers:=ds }:Act).eval x=q at hav
    cases hav;exact ⟨_,rfl⟩
   rw [hrc] at hav
   cases hav with
   | tup _ _ hl hv =>
    have hlt:i < rc.size:=by rw [hl];exact (List.getElem?_eq_some_iff.1 hz).1
    refine fin_pure hI hF hput hK (rv:=rc.getD i default) (run1 (s:=Instr.extract (.tuple rc) i) ?_ (by unfold execOp;simp only [hop,hrc])) rfl rfl (hv i z hz) (fun _ h=>by cases h)
    simp [Instr.extract,hlt,Array.getD]
  ·cases h
 ·-- range
  rename_i t x hop
  split at h
  ·rename_i a ha
   obtain ⟨w',rv,h1,h2⟩:=rangeE_ok hT hI h (opv_ok (ds:=ds) hI hF ha)
   exact fin_comes hF hput hK (run1 h1 (by unfold execOp;simp only [hop])) h2
  ·cases h
 ·-- next
  rename_i x s hop
  split at h
  ·rename_i a ha
   obtain ⟨w',rv,h1,h2⟩:=nextE_ok (ty:=o.type) hI h (opv_ok (ds:=ds) hI hF ha)
   exact fin_comes hF hput hK (run1 h1 (by unfold execOp;simp only [hop])) h2
  ·cases h
 ·-- makeMap
  rename_i t hop
  obtain ⟨w',rv,h1,h2⟩:=makeMapE_ok (P:=P) hI h
  exact fin_comes hF hput hK (run1 h1 (by unfold execOp;simp only [hop];rfl)) h2
 ·-- mapUpdate
  rename_i t m k x hop
  split at h
  ·rename_i a b c ha hb hc
   obtain ⟨w',h1,h2,h3,h4,h5,h6,h7,h8⟩:=mapUpdateE_ok hT hI h (opv_ok (ds:=ds) hI hF ha) (opv_ok (ds:=ds) hI hF hb) (opv_ok (ds:=ds) hI hF hc)
   unfold Oper.wp
   have hrun:(execOp ({ tmps:=rt,defers:=ds }:Act).eval o).run P w = .ok .skip w':=by
    unfold execOp;simp [hop,h1]
   rw [hrun]
   refine hK _ _ ⟨L,h4,h5,h6 _,h7,h8,put_ok hput (by rw [h3];exact hF.mono h8 h5 (h6 _) h7) fun d _ => ?_,put_act _ _⟩
   rw [h2];rfl
  ·cases h
 ·-- lookup
  rename_i t m k q hop
  split at h
  ·rename_i a b ha hb
   obtain ⟨rv,h1,h2⟩:=lookupE_ok hT hI h (opv_ok (ds:=ds) hI hF ha) (opv_ok (ds:=ds) hI hF hb)
   exact fin_comes hF hput hK (run1 h1 (by unfold execOp;simp only [hop])) h2
  ·cases h
 ·-- call
  rename_i c hop
  split at h
  ·cases h
  ·rename_i args hargs
   have hcr:=mapO_opv (ds:=ds) hI hF c.args hargs
   split at h
   ·-- builtin
    rename_i b hc
    exact builtin_ok hT hI hF hput hK hop hc hcr h
   ·rename_i f hc
    split at h
    ·rename_i g first captured hf
     have hfv:=opv_ok (ds:=ds) hI hF hf
     generalize hq:({ tmps:=rt,defers:=ds }:Act).eval f=q at hfv
     cases hfv with
     | fn _ _ _ rx ry l1 l2 e1 e2 =>
     unfold callE at h
     split at h
     ·rename_i v hp hcl
      cases h
      have:=hcall g _ _ v hp hcl B w0 L w (rx++(c.args.map ({ tmps:=rt,defers:=ds }:Act).eval)++ry).toList hI (by
       simp only [Array.toList_append]
       exact ((CR.of_arr l1 e1).app hcr).app (CR.of_arr l2 e2))
      have hexec:(execOp ({ tmps:=rt,defers:=ds }:Act).eval o).run P w=(callFunc g (rx++(c.args.map ({ tmps:=rt,defers:=ds }:Act).eval)++ry)).run P w:=by
       unfold execOp
       simp only [hop,resolve,hc,hq,Deferred.ofValue,Sem.run_bind,Sem.run_pure,Result.andThen_ok,invoke]
      unfold Oper.wp
      rw [hexec]
      unfold FCalls at this
      have post:∀ rv w',CallPost C B w0 L w st.hp.length v hp (.returned rv) w'→K (({ tmps:=rt,defers:=ds }:Act).put o.dst rv) w':=fun rv w' ⟨rv',L',q1,q2,q3,q4,q5,q6,q7⟩=>by
       cases q1
       refine hK _ _ ⟨L',q2,q3,q4.less hbw,q5,q6,put_ok hput (hF.mono q6 q3 q4 q5) fun d _=>q7,put_act _ _⟩
      rw [Array.toArray_toList] at this
      split at this
      ·rename_i rv w' hrun
       rw [hrun]
       exact post rv w' this
      ·rename_i g' ats w' hrun
       rw [hrun]
       refine Calls.mono this fun e w'' he => ?_
       cases e with
       | returned rv=>exact post rv w'' he
       | panicked ch=>obtain ⟨_,_,q1,_⟩:=he;cases q1
       | outgrown=>obtain ⟨_,_,q1,_⟩:=he;cases q1
      ·exact this.elim
     ·cases h
    ·cases h
   ·cases h
 ·cases h
end
end
section
variable {P : Program} {C : Cfg}

def wrS (f : Fp) (c : List AV) (ts : List TV) : List TV :=
  match f with
  | .lw t => setAt ts t (.bx c)
  | _ => ts

/-- what an operation of a footprint leaves of the heap -/
def HeapOut (f : Fp) (hp hp1 : List Blk) : Prop :=
  match f with
  | .hw => True
  | .fw => ∀ b cs, blkCells hp b = some cs → blkCells hp1 b = some cs
  | .al n => n = hp.length ∧ ∃ x, hp1 = hp ++ x
  | _ => hp1 = hp

def hpOut (f : Fp) (hp1 hp' : List Blk) : List Blk :=
  match f with
  | .hw => hp1
  | .fw => hp1
  | .al _ => hp1
  | _ => hp'

/-- what an operation of a footprint asks of another heap -/
def Hc (f : Fp) (hp hp' : List Blk) : Prop :=
  match f with
  | .hw => hp' = hp
  | .fw => hp' = hp
  | .al _ => hp' = hp
  | .hb b => ∀ cs, blkCells hp b = some cs → blkCells hp' b = some cs
  | .hr => ∀ b cs, blkCells hp b = some cs → blkCells hp' b = some cs
  | _ => True

def Sc (f : Fp) (ts ts' : List TV) : Prop :=
  match f with
  | .lr t => slotCells ts' t = slotCells ts t
  | .lw t => slotCells ts' t = slotCells ts t
  | _ => True

/-- the box that is touched is there -/
def Has (f : Fp) (ts : List TV) : Prop :=
  match f with
  | .lr t => ∃ cs, slotCells ts t = some cs
  | .lw t => ∃ cs, slotCells ts t = some cs
  | _ => True

/-- An operation hangs on what it touches alone. -/
def LocalOp (ev : St → Option Res) (same : List TV → List TV → Prop) (st : St) (r : Res) : Prop :=
  ∃ c, Has r.fp st.tmps ∧ r.tmps = wrS r.fp c st.tmps ∧ HeapOut r.fp st.hp r.hp ∧ ∀ ts' hp', same st.tmps ts' → Sc r.fp st.tmps ts' → Hc r.fp st.hp hp' → ev ⟨ts', hp'⟩ = some ⟨r.val, wrS r.fp c ts', hpOut r.fp r.hp hp', r.fp⟩

theorem local_pure {ev : St → Option Res} {same : List TV → List TV → Prop} {st : St} {r : Res} (x : TV) (f : Fp) (hf : f = .z ∨ ∃ d, f = .bx d) (hr : r = ⟨x, st.tmps, st.hp, f⟩) (h : ∀ ts' hp', same st.tmps ts' → ev ⟨ts', hp'⟩ = some ⟨x, ts', hp', f⟩) : LocalOp ev same st r := by
  subst hr
  rcases hf with rfl | ⟨d, rfl⟩
  · exact ⟨[], trivial, rfl, rfl, fun ts' hp' hs _ _ => h ts' hp' hs⟩
  · exact ⟨[], trivial, rfl, rfl, fun ts' hp' hs _ _ => h ts' hp' hs⟩

theorem blk_append {hp : List Blk} {x : Blk} {b : Nat} {cs : List AV} (h : blkCells hp b = some cs) : blkCells (hp ++ [x]) b = some cs := by
  have := blkCells_eq h
  unfold blkCells
  rw [getAt_eq, List.getElem?_append_left (List.getElem?_eq_some_iff.1 this).1, this]

theorem elems_hp {hp hp' : List Blk} (h : ∀ b cs, blkCells hp b = some cs → blkCells hp' b = some cs) {sz : Nat} {x : AV} {xs : List AV} (he : elems hp sz x = some xs) : elems hp' sz x = some xs := by
  unfold elems at he ⊢
  split at he
  · exact he
  · exact he
  · rename_i s b off len
    cases hb : (s == sz) with
    | false => rw [hb] at he; cases he
    | true =>
      rw [hb, cond_true rfl] at he
      simp only [cond_true rfl]
      split at he
      · rename_i cs hcs; rw [h b cs hcs]; exact he
      · cases he
  · exact he
  · cases he

theorem loadAt_local {st : St} {t : TypeId} {a : TV} {r : Res} (h : loadAt C st t a = some r) : LocalOp (fun st => loadAt C st t a) (fun _ _ => True) st r := by
  unfold loadAt at h
  split at h
  · cases h
  · rename_i ti hti
    split at h
    · rename_i v
      obtain ⟨x, hx, rfl⟩ := ofO_eq h
      exact local_pure (.v x) .z (.inl rfl) rfl fun ts' hp' _ => by unfold loadAt; simp only [hti, hx, ofO, Option.map_some]
    · rename_i b off
      split at h
      · rename_i cs hcs
        simp only [Option.map_eq_some_iff] at h
        obtain ⟨x, hx, rfl⟩ := h
        exact ⟨[], trivial, rfl, rfl, fun ts' hp' _ _ hc => by unfold loadAt; simp only [hti, hc cs hcs, hx, Option.map_some]; rfl⟩
      · cases h
    · rename_i s off
      split at h
      · rename_i cs hcs
        simp only [Option.map_eq_some_iff] at h
        obtain ⟨x, hx, rfl⟩ := h
        exact ⟨[], ⟨cs, hcs⟩, rfl, rfl, fun ts' hp' _ hsc _ => by
          have hsc : slotCells ts' s = slotCells st.tmps s := hsc
          unfold loadAt; simp only [hti, hsc, hcs, hx, Option.map_some]; rfl⟩
      · cases h
    · cases h

theorem storeAt_local {fl : Nat} {st : St} {t : TypeId} {a : TV} {x : AV} {r : Res} (h : storeAt C fl st t a x = some r) : LocalOp (fun st => storeAt C fl st t a x) (fun _ _ => True) st r := by
  unfold storeAt at h
  split at h
  · cases h
  · rename_i ti hti
    cases hb : (!(x.cells.length == ti.size) || !x.noTup) with
    | true => rw [hb] at h; cases h
    | false =>
    rw [hb, cond_false rfl] at h
    split at h
    · rename_i b off
      split at h
      · rename_i cs hcs
        cases hb2 : (decide (off + ti.size ≤ cs.length) && decide (fl ≤ b)) with
        | false => rw [hb2] at h; cases h
        | true =>
          rw [hb2, cond_true rfl] at h; cases h
          refine ⟨[], trivial, rfl, trivial, fun ts' hp' _ _ hc => ?_⟩
          have hc : hp' = st.hp := hc
          subst hc
          unfold storeAt; simp only [hti, hb, cond_false rfl, hcs, hb2, cond_true rfl]; rfl
      · cases h
    · rename_i s off
      split at h
      · rename_i cs hcs
        cases hb2 : decide (off + ti.size ≤ cs.length) with
        | false => rw [hb2] at h; cases h
        | true =>
          rw [hb2, cond_true rfl] at h; cases h
          refine ⟨splice cs off x.cells, ⟨cs, hcs⟩, rfl, rfl, fun ts' hp' _ hsc _ => ?_⟩
          have hsc : slotCells ts' s = slotCells st.tmps s := hsc
          unfold storeAt; simp only [hti, hb, cond_false rfl, hsc, hcs, hb2, cond_true rfl]; rfl
      · cases h
    · cases h

theorem newBlk_local {st : St} {cs : List AV} {mk : Nat → AV} {r : Res} (h : newBlk st cs mk = some r) : LocalOp (fun st => newBlk st cs mk) (fun _ _ => True) st r := by
  simp only [newBlk, Option.some.injEq] at h
  subst h
  refine ⟨[], trivial, rfl, trivial, fun ts' hp' _ _ hc => ?_⟩
  have hc : hp' = st.hp := hc
  subst hc
  rfl

theorem appendE_local {fl : Nat} {arrM : Bool} {st : St} {t t2 : TypeId} {s x : AV} {r : Res} (h : appendE C fl arrM st t t2 s x = some r) : LocalOp (fun st => appendE C fl arrM st t t2 s x) (fun _ _ => True) st r := by
  have key : r.tmps = st.tmps → ((r.fp = .hw) ∨ (r.fp = .fw ∧ ∀ b cs, blkCells st.hp b = some cs → blkCells r.hp b = some cs)) → (∀ ts', appendE C fl arrM ⟨ts', st.hp⟩ t t2 s x = some ⟨r.val, ts', r.hp, r.fp⟩) → LocalOp (fun st => appendE C fl arrM st t t2 s x) (fun _ _ => True) st r := fun h1 h2 h3 => by
    obtain ⟨rv, rt, rh, rf⟩ := r
    dsimp only at h1 h2
    subst h1
    rcases h2 with rfl | ⟨rfl, h2⟩
    · refine ⟨[], trivial, rfl, trivial, fun ts' hp' _ _ hc => ?_⟩
      have hc : hp' = st.hp := hc
      subst hc
      exact h3 ts'
    · refine ⟨[], trivial, rfl, h2, fun ts' hp' _ _ hc => ?_⟩
      have hc : hp' = st.hp := hc
      subst hc
      exact h3 ts'
  unfold appendE at h
  split at h
  case h_2 => cases h
  rename_i e _ _ _ _ hti
  split at h
  · cases h
  rename_i ei hei
  split at h
  case h_2 => cases h
  rename_i xs ys hxs hys
  dsimp only at h
  cases hb : (!decide ((ys.length + xs.length) * ei.bytes ≤ 140737488355328) || ei.size == 0 || ei.bytes == 0 || !isSlc s) with
  | true => rw [hb] at h; cases h
  | false =>
  rw [hb, cond_false rfl] at h
  have unf : ∀ ts', appendE C fl arrM ⟨ts', st.hp⟩ t t2 s x = (appendE C fl arrM st t t2 s x).map fun r => ⟨r.val, ts', r.hp, r.fp⟩ := fun ts' => by
    unfold appendE
    simp only [hti, hei, hxs, hys, hb, cond_false rfl]
    cases (xs.length == 0)
    · simp only [cond_false rfl]
      split
      · cases arrM <;> rfl
      · cases arrM <;> rfl
      · split
        · rename_i mark _
          cases (_ + ys.length == mark && decide (fl ≤ _)) <;> rfl
        · rfl
      · split
        · cases (!decide (fl ≤ _)) <;> simp only [cond_true rfl, cond_false rfl]
          · cases (decide (_ + (ys.length + xs.length) * ei.size ≤ _)) <;> rfl
          · rfl
        · rfl
      · rfl
    · rfl
  have hfull : appendE C fl arrM st t t2 s x = some r := by
    unfold appendE
    simp only [hti, hei, hxs, hys, hb, cond_false rfl]
    exact h
  have fpOf : ∀ (q : Bool) (hp1 : List Blk), (∀ b cs, blkCells st.hp b = some cs → blkCells hp1 b = some cs) → ((bif q then Fp.hw else Fp.fw) = .hw) ∨ ((bif q then Fp.hw else Fp.fw) = .fw ∧ ∀ b cs, blkCells st.hp b = some cs → blkCells hp1 b = some cs) := fun q hp1 hh => by
    cases q
    · exact .inr ⟨rfl, hh⟩
    · exact .inl rfl
  have both : r.tmps = st.tmps ∧ ((r.fp = .hw) ∨ (r.fp = .fw ∧ ∀ b cs, blkCells st.hp b = some cs → blkCells r.hp b = some cs)) := by
    cases hk : (xs.length == 0) with
    | true =>
      rw [hk, cond_true rfl] at h; cases h
      exact ⟨rfl, fpOf _ _ fun _ _ h => h⟩
    | false =>
      rw [hk, cond_false rfl] at h
      have fresh : (bif arrM then some (⟨.v (.arr ei.size st.hp.length 0 (ys.length + xs.length)), st.tmps, st.hp ++ [.cells (flat (ys ++ xs))], bif isArr s || isArr x then .hw else .fw⟩ : Res)
          else some ⟨.v (.lit ei.size (.fam st.hp.length 0) (ys ++ xs)), st.tmps, st.hp ++ [.fam (ys.length + xs.length)], bif isArr s || isArr x then .hw else .fw⟩) = some r → r.tmps = st.tmps ∧ ((r.fp = .hw) ∨ (r.fp = .fw ∧ ∀ b cs, blkCells st.hp b = some cs → blkCells r.hp b = some cs)) := fun hr => by
        cases arrM
        · cases hr; exact ⟨rfl, fpOf _ _ fun _ _ h => blk_append h⟩
        · cases hr; exact ⟨rfl, fpOf _ _ fun _ _ h => blk_append h⟩
      split at h
      · exact fresh h
      · exact fresh h
      · split at h
        · rename_i g st0 _ _ mark hmark
          cases hb2 : (st0 + ys.length == mark && decide (fl ≤ g)) with
          | false => rw [hb2] at h; cases h
          | true =>
            rw [hb2, cond_true rfl] at h; cases h
            refine ⟨rfl, fpOf _ _ fun b cs hbc => ?_⟩
            have hg := getAt_some hmark
            have h1 := blkCells_eq hbc
            unfold blkCells
            rw [getAt_eq, setAt_eq]
            have hne : g ≠ b := fun e => by rw [e, h1] at hg; cases hg
            rw [List.getElem?_set_ne hne, h1]
        · cases h
      · rename_i _ b off _
        split at h
        · rename_i cs hcs
          cases hfl : (!decide (fl ≤ b)) with
          | true => rw [hfl] at h; cases h
          | false =>
            rw [hfl, cond_false rfl] at h
            cases hin : decide (off + (ys.length + xs.length) * ei.size ≤ cs.length) with
            | true => rw [hin, cond_true rfl] at h; cases h; exact ⟨rfl, .inl rfl⟩
            | false => rw [hin, cond_false rfl] at h; cases h; exact ⟨rfl, .inl rfl⟩
        · cases h
      · cases h
  exact key both.1 both.2 (fun ts' => by rw [unf ts', hfull]; rfl)

/-- calls that leave what was -/
def CallKeeps (C : Cfg) (call : CallF) : Prop := ∀ f args hp v hp', call f args hp = some (v, hp') → keepsB C f = true → ∃ x, hp' = hp ++ x

theorem callE_local {call : CallF} (hkeep : CallKeeps C call) {st : St} {f : FuncId} {args : List AV} {r : Res} (h : callE C call st f args = some r) : LocalOp (fun st => callE C call st f args) (fun _ _ => True) st r := by
  unfold callE at h
  split at h
  · rename_i v hp hc
    cases h
    cases hk : keepsB C f with
    | true =>
      have e : ∀ n, callFp C f n = .al n := fun n => by unfold callFp; rw [hk]; rfl
      rw [e]
      refine ⟨[], trivial, rfl, ⟨rfl, hkeep f args _ _ _ hc hk⟩, fun ts' hp' _ _ hq => ?_⟩
      have hq : hp' = st.hp := hq
      subst hq
      simp only [callE, hc, e]; rfl
    | false =>
      have e : ∀ n, callFp C f n = .hw := fun n => by unfold callFp; rw [hk]; rfl
      rw [e]
      refine ⟨[], trivial, rfl, trivial, fun ts' hp' _ _ hq => ?_⟩
      have hq : hp' = st.hp := hq
      subst hq
      simp only [callE, hc, e]; rfl
  · cases h

theorem LocalOp.weaken {ev : St → Option Res} {s1 s2 : List TV → List TV → Prop} {st : St} {r : Res} (h : LocalOp ev s1 st r) (hs : ∀ ts', s2 st.tmps ts' → s1 st.tmps ts') : LocalOp ev s2 st r := by
  obtain ⟨c, h0, h1, h2, h3⟩ := h
  exact ⟨c, h0, h1, h2, fun ts' hp' q => h3 ts' hp' (hs ts' q)⟩

theorem LocalOp.congr {ev ev' : St → Option Res} {s : List TV → List TV → Prop} {st : St} {r : Res} (h : LocalOp ev s st r) (he : ∀ ts' hp', s st.tmps ts' → ev' ⟨ts', hp'⟩ = ev ⟨ts', hp'⟩) : LocalOp ev' s st r := by
  obtain ⟨c, h0, h1, h2, h3⟩ := h
  exact ⟨c, h0, h1, h2, fun ts' hp' q a b => (he ts' hp' q).trans (h3 ts' hp' q a b)⟩

theorem LocalOp.of_pure {ev : St → Option Res} {s : List TV → List TV → Prop} {st : St} {x : Option AV} {r : Res} (h : ofO st x = some r) (he : ∀ ts' hp', s st.tmps ts' → ev ⟨ts', hp'⟩ = ofO ⟨ts', hp'⟩ x) : LocalOp ev s st r := by
  obtain ⟨a, rfl, rfl⟩ := ofO_eq h
  exact local_pure (.v a) .z (.inl rfl) rfl fun ts' hp' q => he ts' hp' q

theorem LocalOp.of_tv {ev : St → Option Res} {s : List TV → List TV → Prop} {st : St} {x : TV} {r : Res} (h : pureR st x = some r) (he : ∀ ts' hp', s st.tmps ts' → ev ⟨ts', hp'⟩ = pureR ⟨ts', hp'⟩ x) : LocalOp ev s st r := by
  have := pureR_eq h; subst this
  exact local_pure x .z (.inl rfl) rfl fun ts' hp' q => he ts' hp' q

/-- the same operands -/
def SameOn (C : Cfg) (o : Oper) (ts ts' : List TV) : Prop := ∀ x ∈ o.op.operands, opnd C ts' x = opnd C ts x

theorem opv_same {ts ts' : List TV} {x : Operand} (h : opnd C ts' x = opnd C ts x) : opv C ts' x = opv C ts x := by simp only [opv, h]

theorem mapO_same {ts ts' : List TV} : ∀ {xs : List Operand}, (∀ x ∈ xs, opnd C ts' x = opnd C ts x) → mapO (opv C ts') xs = mapO (opv C ts) xs
  | [], _ => rfl
  | x :: xs, h => by
    simp only [mapO, opv_same (h x (List.mem_cons_self ..)), mapO_same fun y hy => h y (List.mem_cons_of_mem _ hy)]

theorem valParts_same {ts ts' : List TV} : ∀ {ps : List (Nat × Operand)}, (∀ p ∈ ps, opnd C ts' p.2 = opnd C ts p.2) → valParts C ts' ps = valParts C ts ps
  | [], _ => rfl
  | (i, x) :: ps, h => by
    simp only [valParts, opv_same (h (i, x) (List.mem_cons_self ..)), valParts_same fun p hp => h p (List.mem_cons_of_mem _ hp)]

theorem optV_same {ts ts' : List TV} {x : Option Operand} (h : ∀ y, x = some y → opnd C ts' y = opnd C ts y) : optV C ts' x = optV C ts x := by
  cases x with
  | none => rfl
  | some y => simp only [optV, opv_same (h y rfl)]

theorem builtinE_local {fl : Nat} {arrM : Bool} {st : St} {b : Builtin} {ts : List TypeId} {args : List AV} {r : Res} (h : builtinE C fl arrM st b ts args = some r) : LocalOp (fun st => builtinE C fl arrM st b ts args) (fun _ _ => True) st r := by
  unfold builtinE at h
  split at h
  · exact .of_pure h fun _ _ _ => rfl
  · exact .of_pure h fun _ _ _ => rfl
  · exact (appendE_local h).congr fun _ _ _ => rfl
  · rename_i t _ d x
    refine LocalOp.congr (ev := fun st => copyE C fl st t d x) ?_ fun _ _ _ => rfl
    unfold copyE at h ⊢
    split at h
    case h_2 => cases h
    rename_i e _ _ _ _ hti
    split at h
    · cases h
    rename_i ei hei
    split at h
    case h_2 => cases h
    rename_i xs hxs
    split at h
    case h_2 => cases h
    rename_i sz b off len
    split at h
    case h_2 => cases h
    rename_i cs hcs
    cases hb : (decide (fl ≤ b) && sz == ei.size && !(ei.size == 0) && decide (xs.length ≤ len) && decide (off + xs.length * sz ≤ cs.length)) with
    | false => rw [hb] at h; cases h
    | true =>
    rw [hb, cond_true rfl] at h; cases h
    refine ⟨[], trivial, rfl, trivial, fun ts' hp' _ _ hq => ?_⟩
    have hq : hp' = st.hp := hq
    subst hq
    simp only [hxs, hcs, hb, cond_true rfl]; rfl
  · rename_i t _ d
    refine LocalOp.congr (ev := fun st => clearE C fl st t d) ?_ fun _ _ _ => rfl
    unfold clearE at h ⊢
    split at h
    case h_2 => cases h
    rename_i e _ _ _ _ hti
    split at h
    · cases h
    rename_i ei hei
    split at h
    · cases h
      exact local_pure _ .z (.inl rfl) rfl fun ts' hp' _ => by rfl
    · cases h
      exact local_pure _ .z (.inl rfl) rfl fun ts' hp' _ => by rfl
    · rename_i sz b off len
      split at h
      case h_2 => cases h
      rename_i cs hcs
      cases hb : (decide (fl ≤ b) && sz == ei.size && !(ei.size == 0) && decide (off + len * sz ≤ cs.length)) with
      | false => rw [hb] at h; cases h
      | true =>
      rw [hb, cond_true rfl] at h; cases h
      refine ⟨[], trivial, rfl, trivial, fun ts' hp' _ _ hq => ?_⟩
      have hq : hp' = st.hp := hq
      subst hq
      simp only [hcs, hb, cond_true rfl]; rfl
    · cases h
  · exact .of_pure h fun _ _ _ => rfl
  · exact .of_pure h fun _ _ _ => rfl
  · cases h

theorem convE_local {arrM : Bool} {st : St} {s d : TypeId} {x : AV} {r : Res} (h : convE C arrM st s d x = some r) : LocalOp (fun st => convE C arrM st s d x) (fun _ _ => True) st r := by
  unfold convE at h
  split at h
  · rename_i h1 h2
    exact .of_pure h fun _ _ _ => by simp only [convE, h1, h2]
  · rename_i h1 h2
    exact .of_pure h fun _ _ _ => by simp only [convE, h1, h2]
  · rename_i h1 h2
    split at h
    · rename_i h3
      cases arrM with
      | true => rw [cond_true rfl] at h; exact (newBlk_local h).congr fun _ _ _ => by simp only [convE, h1, h2, h3, cond_true rfl]
      | false => rw [cond_false rfl] at h; exact .of_pure h fun _ _ _ => by simp only [convE, h1, h2, h3, cond_false rfl]
    · cases h
  · rename_i x _ _ _ e _ _ _ _ _ _ _ _ h1 h2 hneg
    cases hb : (!isSlc x) with
    | true => rw [hb] at h; cases h
    | false =>
    rw [hb, cond_false rfl] at h
    split at h
    · rename_i h3
      split at h
      · rename_i xs hxs
        simp only [Option.map_eq_some_iff] at h
        obtain ⟨l, hl, rfl⟩ := h
        cases x with
        | arr sz b off len =>
          refine ⟨[], trivial, rfl, rfl, fun ts' hp' _ _ hq => ?_⟩
          have hq : ∀ b cs, blkCells st.hp b = some cs → blkCells hp' b = some cs := hq
          have he := elems_hp hq hxs
          unfold convE
          simp only [h1, h2, isSlc, Bool.not_true, cond_false rfl, h3, he, hl, Option.map_some]
          rfl
        | lit sz own ys =>
          refine ⟨[], trivial, rfl, rfl, fun ts' hp' _ _ _ => ?_⟩
          have he : elems hp' 1 (.lit sz own ys) = some xs := hxs
          unfold convE
          simp only [h1, h2, isSlc, Bool.not_true, cond_false rfl, h3, he, hl, Option.map_some]
          rfl
        | nilS =>
          refine ⟨[], trivial, rfl, rfl, fun ts' hp' _ _ _ => ?_⟩
          have he : elems hp' 1 .nilS = some xs := hxs
          unfold convE
          simp only [h1, h2, isSlc, Bool.not_true, cond_false rfl, h3, he, hl, Option.map_some]
          rfl
        | _ => first | cases hb | cases hxs
      · cases h
    · cases h
  · cases h

/-- what turns the heap, whole -/
structure Hw (ev : St → Option Res) (st : St) (r : Res) : Prop where
  tmps : r.tmps = st.tmps
  fp : r.fp = .hw
  bx : ∀ cs, r.val ≠ .bx cs
  all : ∀ ts', ev ⟨ts', st.hp⟩ = some ⟨r.val, ts', r.hp, .hw⟩
theorem Hw.loc {ev : St → Option Res} {st : St} {r : Res} (h : Hw ev st r) : LocalOp ev (fun _ _ => True) st r := by
  obtain ⟨h1, h2, -, h3⟩ := h
  obtain ⟨rv, rt, rh, rf⟩ := r
  dsimp only at h1 h2 h3
  subst h1 h2
  refine ⟨[], trivial, rfl, trivial, fun ts' hp' _ _ hc => ?_⟩
  have hc : hp' = st.hp := hc
  subst hc
  exact h3 ts'
theorem rangeE_hw {st : St} {t : TypeId} {x : AV} {r : Res} (h : rangeE C st t x = some r) : Hw (fun st => rangeE C st t x) st r := by
  unfold rangeE at h
  split at h
  · rename_i h1
    cases h
    exact ⟨rfl, rfl, fun _ => TV.noConfusion, fun ts' => by unfold rangeE; simp only [h1]; rfl⟩
  · cases h
theorem nextE_hw {fl : Nat} {st : St} {x : AV} {s : Bool} {r : Res} (h : nextE fl st x s = some r) : Hw (fun st => nextE fl st x s) st r := by
  unfold nextE at h
  split at h
  case h_2 => cases h
  rename_i b
  split at h
  case h_2 => cases h
  rename_i s pos hb
  cases h1 : (!decide (fl ≤ b)) with
  | true => rw [h1] at h; cases h
  | false =>
  rw [h1, cond_false rfl] at h
  cases h2 : decide (pos < s.length) with
  | true => rw [h2] at h; cases h; exact ⟨rfl, rfl, fun _ => TV.noConfusion, fun ts' => by unfold nextE; simp only [hb, h1, h2]; rfl⟩
  | false => rw [h2] at h; cases h; exact ⟨rfl, rfl, fun _ => TV.noConfusion, fun ts' => by unfold nextE; simp only [hb, h1, h2]; rfl⟩
theorem makeMapE_hw {st : St} {t : TypeId} {r : Res} (h : makeMapE C st t = some r) : Hw (fun st => makeMapE C st t) st r := by
  unfold makeMapE at h
  split at h
  · rename_i h1
    cases h
    exact ⟨rfl, rfl, fun _ => TV.noConfusion, fun ts' => by unfold makeMapE; simp only [h1]; rfl⟩
  · cases h
theorem mapUpdateE_hw {fl : Nat} {st : St} {t : TypeId} {m k x : AV} {r : Res} (h : mapUpdateE C fl st t m k x = some r) : Hw (fun st => mapUpdateE C fl st t m k x) st r := by
  unfold mapUpdateE at h
  split at h
  case h_2 => cases h
  rename_i ti b s hti
  split at h
  case h_2 => cases h
  rename_i es hb
  cases h1 : (decide (fl ≤ b) && x.noTup) with
  | false => rw [h1] at h; cases h
  | true => rw [h1] at h; cases h; exact ⟨rfl, rfl, fun _ => TV.noConfusion, fun ts' => by unfold mapUpdateE; simp only [hti, hb, h1]; rfl⟩
theorem lookupE_hw {st : St} {t : TypeId} {m k : AV} {ok : Bool} {r : Res} (h : lookupE C st t m k ok = some r) : Hw (fun st => lookupE C st t m k ok) st r := by
  unfold lookupE at h
  split at h
  case h_2 => cases h
  rename_i ti b s hti
  split at h
  case h_2 => cases h
  rename_i es hb
  split at h
  · rename_i v hv
    cases h
    exact ⟨rfl, rfl, fun _ => TV.noConfusion, fun ts' => by unfold lookupE; simp only [hti, hb, hv]⟩
  · rename_i hv
    simp only [Option.map_eq_some_iff] at h
    obtain ⟨z, hz, rfl⟩ := h
    exact ⟨rfl, rfl, fun _ => TV.noConfusion, fun ts' => by unfold lookupE; simp only [hti, hb, hv, hz, Option.map_some]⟩

theorem evOp_local {call : CallF} (hkeep : CallKeeps C call) {fl : Nat} {me : FuncId} {o : Oper} {st : St} {r : Res} (h : evOp C call fl me o st = some r) : LocalOp (evOp C call fl me o) (SameOn C o) st r := by
  unfold evOp at h
  split at h
  · -- move
    rename_i x hop
    cases hx : opnd C st.tmps x with
    | none => rw [hx] at h; cases h
    | some tv =>
      rw [hx] at h
      exact .of_tv h fun ts' hp' q => by
        have := q x (by simp [hop, Op.operands])
        unfold evOp; simp only [hop, this, hx]; rfl
  · rename_i x hop
    cases hx : opnd C st.tmps x with
    | none => rw [hx] at h; cases h
    | some tv =>
      rw [hx] at h
      exact .of_tv h fun ts' hp' q => by
        have := q x (by simp [hop, Op.operands])
        unfold evOp; simp only [hop, this, hx]; rfl
  · rename_i c a b hop
    split at h
    · rename_i t hc
      cases hx : opnd C st.tmps (bif t then a else b) with
      | none => rw [hx] at h; cases h
      | some tv =>
        rw [hx] at h
        exact .of_tv h fun ts' hp' q => by
          have e1 := opv_same (q c (by simp [hop, Op.operands]))
          have e2 := q (bif t then a else b) (by cases t <;> simp [hop, Op.operands])
          unfold evOp; simp only [hop, e1, hc, e2, hx]; rfl
    · cases h
  · -- alloc
    rename_i e hop
    split at h
    · cases h
    · rename_i ti hti
      cases hb : (ti.size == 0) with
      | true => rw [hb] at h; cases h
      | false =>
      rw [hb, cond_false rfl] at h
      split at h
      · cases h
      · rename_i dd hdst
        cases hl : bit (C.isLoc me) dd with
        | true =>
          rw [hl, cond_true rfl] at h; cases h
          exact local_pure _ _ (.inr ⟨dd, rfl⟩) rfl fun ts' hp' q => by unfold evOp; simp only [hop, hti, hb, cond_false rfl, hdst, hl, cond_true rfl]
        | false =>
          rw [hl, cond_false rfl] at h
          exact ((newBlk_local h).weaken fun _ _ => trivial).congr fun ts' hp' q => by unfold evOp; simp only [hop, hti, hb, cond_false rfl, hdst, hl]
  · -- box
    rename_i e x hop
    split at h
    · rename_i a dd ha hdst
      cases hb : (a.cells.length == 0 || !a.noTup) with
      | true => rw [hb] at h; cases h
      | false =>
      rw [hb, cond_false rfl] at h
      cases hl : bit (C.isLoc me) dd with
      | true =>
        rw [hl, cond_true rfl] at h; cases h
        exact local_pure _ _ (.inr ⟨dd, rfl⟩) rfl fun ts' hp' q => by
          have e1 := opv_same (q x (by simp [hop, Op.operands]))
          unfold evOp; simp only [hop, e1, ha, hdst, hb, cond_false rfl, hl, cond_true rfl]
      | false =>
        rw [hl, cond_false rfl] at h
        exact ((newBlk_local h).weaken fun _ _ => trivial).congr fun ts' hp' q => by
          have e1 := opv_same (q x (by simp [hop, Op.operands]))
          unfold evOp; simp only [hop, e1, ha, hdst, hb, cond_false rfl, hl]
    · cases h
  · -- build
    rename_i t ps hop
    split at h
    · rename_i ti vs hti hvs
      cases hag : ti.k.agg with
      | false => rw [hag] at h; cases h
      | true =>
      rw [hag, cond_true rfl] at h
      exact .of_pure h fun ts' hp' q => by
        have e1 := valParts_same (C := C) (ts := st.tmps) (ts' := ts') (ps := ps.toList) (fun p hp => q p.2 (by simp only [hop, Op.operands, List.mem_toArray, List.mem_map]; exact ⟨p, hp, rfl⟩))
        unfold evOp; simp only [hop, hti, e1, hvs, hag, cond_true rfl]
    · cases h
  · -- buildSlice
    rename_i t len ps hop
    split at h
    · rename_i e _ _ _ _ vs hti hvs
      split at h
      · cases h
      · rename_i ei hei
        split at h
        · cases h
        · rename_i z hz
          split at h
          · cases h
          · rename_i xs hxs
            cases hb : (ei.size == 0 || decide (16777216 < len * ei.size) || !(z.cells.length == ei.size) || !z.noTup) with
            | true => rw [hb] at h; cases h
            | false =>
            rw [hb, cond_false rfl] at h
            cases hbb : C.arrB me with
            | false =>
              rw [hbb, cond_false rfl] at h
              exact .of_pure h fun ts' hp' q => by
                have e1 := valParts_same (C := C) (ts := st.tmps) (ts' := ts') (ps := ps.toList) (fun p hp => q p.2 (by simp only [hop, Op.operands, List.mem_toArray, List.mem_map]; exact ⟨p, hp, rfl⟩))
                unfold evOp; simp only [hop, hti, e1, hvs, hei, hz, hxs, hb, hbb, cond_false rfl]
            | true =>
              rw [hbb, cond_true rfl] at h
              exact ((newBlk_local h).weaken fun _ _ => trivial).congr fun ts' hp' q => by
                have e1 := valParts_same (C := C) (ts := st.tmps) (ts' := ts') (ps := ps.toList) (fun p hp => q p.2 (by simp only [hop, Op.operands, List.mem_toArray, List.mem_map]; exact ⟨p, hp, rfl⟩))
                unfold evOp; simp only [hop, hti, e1, hvs, hei, hz, hxs, hb, hbb, cond_false rfl, cond_true rfl]
    · cases h
  · -- load
    rename_i t x hop
    cases hx : opnd C st.tmps x with
    | none => rw [hx] at h; cases h
    | some tv =>
      rw [hx] at h
      exact ((loadAt_local h).weaken fun _ _ => trivial).congr fun ts' hp' q => by
        have := q x (by simp [hop, Op.operands])
        unfold evOp; simp only [hop, this, hx]; rfl
  · -- store
    rename_i t x y hop
    split at h
    · rename_i tv a hx hy
      exact ((storeAt_local h).weaken fun _ _ => trivial).congr fun ts' hp' q => by
        have e1 := q x (by simp [hop, Op.operands])
        have e2 := opv_same (q y (by simp [hop, Op.operands]))
        unfold evOp; simp only [hop, e1, e2, hx, hy]
    · cases h
  · -- nilCheck
    rename_i x hop
    have e1 : ∀ ts', SameOn C o st.tmps ts' → opnd C ts' x = opnd C st.tmps x := fun ts' q => q x (by simp [hop, Op.operands])
    split at h
    all_goals first
      | cases h
      | skip
    all_goals (rename_i hx; exact .of_tv (x := _) (by first | exact h | rfl) fun ts' hp' q => by unfold evOp; simp only [hop, e1 ts' q, hx])
  · -- binOp
    rename_i op t x y yt hop
    split at h
    · rename_i a b ha hb
      exact .of_pure h fun ts' hp' q => by
        have e1 := opv_same (q x (by simp [hop, Op.operands]))
        have e2 := opv_same (q y (by simp [hop, Op.operands]))
        unfold evOp; simp only [hop, e1, e2, ha, hb]
    · cases h
  · rename_i op t x hop
    split at h
    · rename_i a ha
      exact .of_pure h fun ts' hp' q => by
        have e1 := opv_same (q x (by simp [hop, Op.operands]))
        unfold evOp; simp only [hop, e1, ha]
    · cases h
  · rename_i s d x hop
    split at h
    · rename_i a ha
      exact ((convE_local h).weaken fun _ _ => trivial).congr fun ts' hp' q => by
        have e1 := opv_same (q x (by simp [hop, Op.operands]))
        unfold evOp; simp only [hop, e1, ha]
    · cases h
  · rename_i t x hop
    split at h
    · rename_i ti a hti ha
      have hr : ofO st (some (.iface t a)) = some r ∧ ti.k ≠ .iface := by
        cases hkk : ti.k <;> rw [hkk] at h <;> first | exact ⟨h, by simp⟩ | cases h
      exact .of_pure hr.1 fun ts' hp' q => by
        have e1 := opv_same (q x (by simp [hop, Op.operands]))
        unfold evOp; simp only [hop, e1, ha, hti]
        cases hkk : ti.k <;> first | rfl | exact absurd hkk hr.2
    · cases h
  · rename_i f first captured hop
    split at h
    · rename_i a b ha hb
      exact .of_pure h fun ts' hp' q => by
        have e1 := mapO_same (C := C) (ts := st.tmps) (ts' := ts') (xs := first.toList) (fun x hx => q x (by simp only [hop, Op.operands, Array.mem_append]; exact .inl (by simpa using hx)))
        have e2 := mapO_same (C := C) (ts := st.tmps) (ts' := ts') (xs := captured.toList) (fun x hx => q x (by simp only [hop, Op.operands, Array.mem_append]; exact .inr (by simpa using hx)))
        unfold evOp; simp only [hop, e1, e2, ha, hb]
    · cases h
  · rename_i t l c hop
    split at h
    · rename_i e _ _ _ _ k n k' m hti hl hc
      split at h
      · cases h
      · rename_i ei hei
        cases hb : (decide (0 ≤ n) && decide (n ≤ m) && decide (m * ei.bytes ≤ 140737488355328) && !(ei.size == 0) && !(ei.bytes == 0)) with
        | false => rw [hb] at h; cases h
        | true =>
        rw [hb, cond_true rfl] at h
        exact ((newBlk_local h).weaken fun _ _ => trivial).congr fun ts' hp' q => by
          have e1 := opv_same (q l (by simp [hop, Op.operands]))
          have e2 := opv_same (q c (by simp [hop, Op.operands]))
          unfold evOp; simp only [hop, hti, e1, e2, hl, hc, hei, hb, cond_true rfl]
    · cases h
  · -- slice
    rename_i t x lo hi mx hop
    split at h
    · rename_i a l hh m ha hl hhh hm
      have e1 : ∀ ts', SameOn C o st.tmps ts' → opnd C ts' x = opnd C st.tmps x := fun ts' q => q x (by simp [hop, Op.operands])
      have e2 : ∀ ts', SameOn C o st.tmps ts' → optV C ts' lo = optV C st.tmps lo := fun ts' q => optV_same fun y hy => q y (by simp [hop, Op.operands, hy])
      have e3 : ∀ ts', SameOn C o st.tmps ts' → optV C ts' hi = optV C st.tmps hi := fun ts' q => optV_same fun y hy => q y (by simp [hop, Op.operands, hy])
      have e4 : ∀ ts', SameOn C o st.tmps ts' → optV C ts' mx = optV C st.tmps mx := fun ts' q => optV_same fun y hy => q y (by simp [hop, Op.operands, hy])
      simp only [Option.map_eq_some_iff] at h
      obtain ⟨y, hy, rfl⟩ := h
      have key : ∀ ts' hp', SameOn C o st.tmps ts' → Hc (slFp a) st.hp hp' → sliceE C ⟨ts', hp'⟩ t a l hh m = some y := fun ts' hp' _ hc => by
        have via : ∀ b, (∀ cs, blkCells st.hp b = some cs → sliceE C ⟨ts', hp'⟩ t a l hh m = sliceE C st t a l hh m) → (blkCells st.hp b = none → sliceE C st t a l hh m = none) → sliceE C ⟨ts', hp'⟩ t a l hh m = some y := fun b h1 h2 => by
          cases hbc : blkCells st.hp b with
          | some cs => rw [h1 cs hbc]; exact hy
          | none => rw [h2 hbc] at hy; cases hy
        cases a with
        | v z =>
          cases z <;> try exact hy
          case ptr b off =>
            have hc : ∀ b cs, blkCells st.hp b = some cs → blkCells hp' b = some cs := hc
            refine via b (fun cs hcs => ?_) (fun hn => ?_)
            · have h2 := hc b cs hcs
              unfold sliceE; simp only [hcs, h2]
            · unfold sliceE; simp only [hn]
              repeat' (first | rfl | contradiction | split)
          case arr sz b off len =>
            have hc : ∀ b cs, blkCells st.hp b = some cs → blkCells hp' b = some cs := hc
            refine via b (fun cs hcs => ?_) (fun hn => ?_)
            · have h2 := hc b cs hcs
              unfold sliceE; simp only [hcs, h2]
            · unfold sliceE; simp only [hn]
              repeat' (first | rfl | contradiction | split)
        | _ => exact hy
      refine ⟨[], by cases a <;> first | trivial | (rename_i z; cases z <;> trivial), by cases a <;> first | rfl | (rename_i z; cases z <;> rfl), by cases a <;> first | rfl | (rename_i z; cases z <;> rfl), fun ts' hp' q _ hc => ?_⟩
      have hk := key ts' hp' q hc
      unfold evOp
      simp only [hop, e1 ts' q, e2 ts' q, e3 ts' q, e4 ts' q, ha, hl, hhh, hm, hk, Option.map_some]
      cases a with
      | v z => cases z <;> rfl
      | _ => rfl
    · cases h
  · rename_i t x f hop
    split at h
    · rename_i a ha
      cases hfa : fieldAddr C t f a with
      | none => rw [hfa] at h; cases h
      | some tv =>
        rw [hfa] at h
        exact .of_tv h fun ts' hp' q => by
          have := q x (by simp [hop, Op.operands])
          unfold evOp; simp only [hop, this, ha, hfa]; rfl
    · cases h
  · rename_i t x f hop
    split at h
    · rename_i cs ha
      split at h
      · rename_i off ti hfd
        exact .of_pure h fun ts' hp' q => by
          have e1 := opv_same (q x (by simp [hop, Op.operands]))
          unfold evOp; simp only [hop, e1, ha, hfd]
      · cases h
    · cases h
  · rename_i t x i hop
    split at h
    · rename_i a k n ha hn
      cases hfa : indexAddr C t a n with
      | none => rw [hfa] at h; cases h
      | some tv =>
        rw [hfa] at h
        exact .of_tv h fun ts' hp' q => by
          have e1 := q x (by simp [hop, Op.operands])
          have e2 := opv_same (q i (by simp [hop, Op.operands]))
          unfold evOp; simp only [hop, e1, e2, ha, hn, hfa]; rfl
    · cases h
  · rename_i t x i hop
    split at h
    · rename_i a k n ha hn
      exact .of_pure h fun ts' hp' q => by
        have e1 := opv_same (q x (by simp [hop, Op.operands]))
        have e2 := opv_same (q i (by simp [hop, Op.operands]))
        unfold evOp; simp only [hop, e1, e2, ha, hn]
    · cases h
  · rename_i x i hop
    split at h
    · rename_i vs ha
      exact .of_pure h fun ts' hp' q => by
        have e1 := opv_same (q x (by simp [hop, Op.operands]))
        unfold evOp; simp only [hop, e1, ha]
    · cases h
  · -- range
    rename_i t x hop
    split at h
    · rename_i a ha
      exact ((rangeE_hw h).loc.weaken fun _ _ => trivial).congr fun ts' hp' q => by
        have e1 := opv_same (q x (by simp [hop, Op.operands]))
        unfold evOp; simp only [hop, e1, ha]
    · cases h
  · -- next
    rename_i x s hop
    split at h
    · rename_i a ha
      exact ((nextE_hw h).loc.weaken fun _ _ => trivial).congr fun ts' hp' q => by
        have e1 := opv_same (q x (by simp [hop, Op.operands]))
        unfold evOp; simp only [hop, e1, ha]
    · cases h
  · -- makeMap
    rename_i t hop
    exact ((makeMapE_hw h).loc.weaken fun _ _ => trivial).congr fun ts' hp' q => by unfold evOp; simp only [hop]
  · -- mapUpdate
    rename_i t m k x hop
    split at h
    · rename_i a b c ha hb hc
      exact ((mapUpdateE_hw h).loc.weaken fun _ _ => trivial).congr fun ts' hp' q => by
        have e1 := opv_same (q m (by simp [hop, Op.operands]))
        have e2 := opv_same (q k (by simp [hop, Op.operands]))
        have e3 := opv_same (q x (by simp [hop, Op.operands]))
        unfold evOp; simp only [hop, e1, e2, e3, ha, hb, hc]
    · cases h
  · -- lookup
    rename_i t m k q hop
    split at h
    · rename_i a b ha hb
      exact ((lookupE_hw h).loc.weaken fun _ _ => trivial).congr fun ts' hp' q => by
        have e1 := opv_same (q m (by simp [hop, Op.operands]))
        have e2 := opv_same (q k (by simp [hop, Op.operands]))
        unfold evOp; simp only [hop, e1, e2, ha, hb]
    · cases h
  · -- call
    rename_i c hop
    split at h
    · cases h
    · rename_i args hargs
      have e1 : ∀ ts', SameOn C o st.tmps ts' → mapO (opv C ts') c.args.toList = mapO (opv C st.tmps) c.args.toList := fun ts' q => mapO_same fun x hx => q x (by simp only [hop, Op.operands, Call.operands, Array.mem_append]; exact .inr (by simpa using hx))
      split at h
      · rename_i b hc
        exact ((builtinE_local h).weaken fun _ _ => trivial).congr fun ts' hp' q => by
          unfold evOp; simp only [hop, e1 ts' q, hargs, hc]
      · rename_i f hc
        split at h
        · rename_i g first captured hf
          exact ((callE_local hkeep h).weaken fun _ _ => trivial).congr fun ts' hp' q => by
            have e2 := opv_same (q f (by simp [hop, Op.operands, Call.operands, hc]))
            unfold evOp; simp only [hop, e1 ts' q, hargs, hc, e2, hf]
        · cases h
      · cases h
  · cases h

end
section
variable {P:Program} {C:Cfg}
def cls (o:Oper):Nat:=match o.op with
 | .load .. => 1
 | .slice .. => 1
 | .store .. => 2
 | .makeSlice .. => 2
 | .buildSlice .. => 2
 | .alloc .. => 2
 | .box .. => 2
 | .convert .. => 2
 | .range .. => 2
 | .next .. => 2
 | .makeMap .. => 2
 | .mapUpdate .. => 2
 | .lookup .. => 2
 | .call c=>match c.callee with
  | .builtin b=>(match b with | .len=>0 | .min=>0 | .max=>0 | _=>2)
  | _=>2
 | _=>0
def NB (r:Res):Prop:=(∀ cs,r.val ≠ .bx cs)∧∀ d,r.fp ≠ .bx d
structure Facts (o:Oper) (r:Res):Prop where
 bx:NB r∨∃ d cs,r.fp = .bx d∧o.dst=some d∧r.val = .bx cs
 c0:cls o=0→r.fp = .z
 c1:cls o=1→r.fp = .z∨r.fp = .hr∨(∃ b,r.fp = .hb b)∨∃ t,r.fp = .lr t
theorem Hw.nb {ev:St→Option Res} {st:St} {r:Res} (h:Hw ev st r):NB r:=⟨h.bx,fun d e=>by rw [h.fp] at e;cases e⟩
theorem ofO_nb {st:St} {x:Option AV} {r:Res} (h:ofO st x=some r):NB r∧r.fp = .z:=by
 obtain ⟨a,rfl,rfl⟩:=ofO_eq h
 exact ⟨⟨fun _ h=>TV.noConfusion h,fun _ h=>Fp.noConfusion h⟩,rfl⟩
theorem newBlk_nb {st:St} {cs:List AV} {mk:Nat→AV} {r:Res} (h:newBlk st cs mk=some r):NB r:=by
 simp only [newBlk,Option.some.injEq] at h
 subst h
 exact ⟨fun _ h=>TV.noConfusion h,fun _ h=>Fp.noConfusion h⟩
theorem loadAt_nb {st:St} {t:TypeId} {a:TV} {r:Res} (h:loadAt C st t a=some r):NB r∧(r.fp = .z∨r.fp = .hr∨(∃ b,r.fp = .hb b)∨∃ t,r.fp = .lr t):=by
 unfold loadAt at h
 split at h
 ·cases h
 split at h
 ·obtain ⟨h1,h2⟩:=ofO_nb h;exact ⟨h1, .inl h2⟩
 ·split at h
  ·simp only [Option.map_eq_some_iff] at h
   obtain ⟨x,_,rfl⟩:=h
   exact ⟨⟨fun _ h=>TV.noConfusion h,fun _ h=>Fp.noConfusion h⟩, .inr (.inr (.inl ⟨_,rfl⟩))⟩
  ·cases h
 ·split at h
  ·simp only [Option.map_eq_some_iff] at h
   obtain ⟨x,_,rfl⟩:=h
   exact ⟨⟨fun _ h=>TV.noConfusion h,fun _ h=>Fp.noConfusion h⟩, .inr (.inr (.inr ⟨_,rfl⟩))⟩
  ·cases h
 ·cases h
theorem storeAt_nb {fl:Nat} {st:St} {t:TypeId} {a:TV} {x:AV} {r:Res} (h:storeAt C fl st t a x=some r):NB r:=by
 unfold storeAt at h
 simp only [cond_eq_ite] at h
 repeat' (first | (cases h;done) | split at h)
 all_goals (cases h;exact ⟨fun _ h=>TV.noConfusion h,fun _ h=>Fp.noConfusion h⟩)
theorem appendE_nb {fl:Nat} {arrM:Bool} {st:St} {t t2:TypeId} {s x:AV} {r:Res} (h:appendE C fl arrM st t t2 s x=some r):NB r:=by
 unfold appendE at h
 simp only [cond_eq_ite] at h
 repeat' (first | (cases h;done) | split at h)
 all_goals (cases h;exact ⟨fun _ h=>TV.noConfusion h,fun _ h=>by first | exact Fp.noConfusion h | (dsimp only at h;split at h <;> cases h)⟩)
theorem builtinE_nb {fl:Nat} {arrM:Bool} {st:St} {b:Builtin} {ts:List TypeId} {args:List AV} {r:Res} (h:builtinE C fl arrM st b ts args=some r) :
  NB r∧((b = .len∨b = .min∨b = .max)→r.fp = .z):=by
 unfold builtinE at h
 split at h
 ·obtain ⟨h1,h2⟩:=ofO_nb h;exact ⟨h1,fun _=>h2⟩
 ·obtain ⟨h1,h2⟩:=ofO_nb h;exact ⟨h1,fun _=>h2⟩
 ·exact ⟨appendE_nb h,fun h=>by rcases h with h | h | h <;> cases h⟩
 ·refine ⟨?_,fun h=>by rcases h with h | h | h <;> cases h⟩
  unfold copyE at h
  simp only [cond_eq_ite] at h
  repeat' (first | (cases h;done) | split at h)
  all_goals (cases h;exact ⟨fun _ h=>TV.noConfusion h,fun _ h=>Fp.noConfusion h⟩)
 ·refine ⟨?_,fun h=>by rcases h with h | h | h <;> cases h⟩
  unfold clearE at h
  simp only [cond_eq_ite] at h
  repeat' (first | (cases h;done) | split at h)
  all_goals (cases h;exact ⟨fun _ h=>TV.noConfusion h,fun _ h=>Fp.noConfusion h⟩)
 ·obtain ⟨h1,h2⟩:=ofO_nb h;exact ⟨h1,fun _=>h2⟩
 ·obtain ⟨h1,h2⟩:=ofO_nb h;exact ⟨h1,fun _=>h2⟩
 ·cases h
theorem convE_nb {arrM:Bool} {st:St} {s d:TypeId} {x:AV} {r:Res} (h:convE C arrM st s d x=some r):NB r:=by
 unfold convE at h
 split at h
 ·exact (ofO_nb h).1
 ·exact (ofO_nb h).1
 ·split at h
  ·cases arrM with
   | true=>rw [cond_true rfl] at h;exact newBlk_nb h
   | false=>rw [cond_false rfl] at h;exact (ofO_nb h).1
  ·cases h
 ·simp only [cond_eq_ite] at h
  split at h
  ·cases h
  split at h
  ·split at h
   ·simp only [Option.map_eq_some_iff] at h
    obtain ⟨l,hl,rfl⟩:=h
    refine ⟨fun _ h=>TV.noConfusion h, ?_⟩
    dsimp only
    split
    ·exact fun _ h=>Fp.noConfusion h
    ·exact fun _ h=>Fp.noConfusion h
   ·cases h
  ·cases h
 ·cases h
theorem callE_nb {call:CallF} {st:St} {f:FuncId} {args:List AV} {r:Res} (h:callE C call st f args=some r):NB r:=by
 unfold callE at h
 split at h
 ·cases h
  refine ⟨fun _ h=>TV.noConfusion h,fun _ h => ?_⟩
  dsimp only at h
  unfold callFp at h
  cases hk:keepsB C f <;> rw [hk] at h <;> cases h
 ·cases h
theorem Facts.pure {o:Oper} {r:Res} (h:NB r∧r.fp = .z):Facts o r:=⟨.inl h.1,fun _=>h.2,fun _ => .inl h.2⟩
theorem Facts.two {o:Oper} {r:Res} (h:NB r) (hc:cls o=2):Facts o r:=⟨.inl h,fun h=>(by rw [hc] at h;cases h),fun h=>(by rw [hc] at h;cases h)⟩
theorem fieldAddr_nbx {t:TypeId} {i:Nat} {a x:TV} (h:fieldAddr C t i a=some x):∀ cs,x ≠ .bx cs:=by
 unfold fieldAddr at h
 simp only [cond_eq_ite] at h
 repeat' (first | (cases h;done) | split at h)
 all_goals first
  | (simp only [Option.map_eq_some_iff] at h;obtain ⟨_,_,rfl⟩:=h;exact fun _ h=>TV.noConfusion h)
  | (cases h;exact fun _ h=>TV.noConfusion h)
theorem indexAddr_nbx {t:TypeId} {i:Int} {a x:TV} (h:indexAddr C t a i=some x):∀ cs,x ≠ .bx cs:=by
 unfold indexAddr at h
 simp only [cond_eq_ite] at h
 repeat' (first | (cases h;done) | split at h)
 all_goals first
  | (simp only [Option.map_eq_some_iff] at h;obtain ⟨_,_,rfl⟩:=h;exact fun _ h=>TV.noConfusion h)
  | (cases h;exact fun _ h=>TV.noConfusion h)
theorem pureR_nb {st:St} {x:TV} {r:Res} (h:pureR st x=some r) (hx:∀ cs,x ≠ .bx cs):NB r∧r.fp = .z:=by
 have:=pureR_eq h;subst this
 exact ⟨⟨hx,fun _ h=>Fp.noConfusion h⟩,rfl⟩
theorem evOp_facts {call:CallF} {fl:Nat} {me:FuncId} {o:Oper} {st:St} {r:Res} (h:evOp C call fl me o st=some r):Facts o r:=by
 unfold evOp at h
 split at h
 ·rename_i x hop
  simp only [Option.bind_eq_some_iff] at h
  obtain ⟨y,hy,h⟩:=h
  exact .pure (pureR_nb h (opnd_notBx hy))
 ·rename_i x hop
  simp only [Option.bind_eq_some_iff] at h
  obtain ⟨y,hy,h⟩:=h
  exact .pure (pureR_nb h (opnd_notBx hy))
 ·rename_i c a b hop
  split at h
  ·simp only [Option.bind_eq_some_iff] at h
   obtain ⟨y,hy,h⟩:=h
   exact .pure (pureR_nb h (opnd_notBx hy))
  ·cases h
 ·rename_i e hop
  have hc:cls o=2:=by unfold cls;rw [hop]
  split at h
  ·cases h
  simp only [cond_eq_ite] at h
  split at h
  ·cases h
  split at h
  ·cases h
  rename_i d hd
  split at h
  ·cases h
   exact ⟨.inr ⟨d,_,rfl,hd,rfl⟩,fun h=>(by rw [hc] at h;cases h),fun h=>(by rw [hc] at h;cases h)⟩
  ·exact .two (newBlk_nb h) hc
 ·rename_i e x hop
  have hc:cls o=2:=by unfold cls;rw [hop]
  split at h
  case h_2=>cases h
  rename_i a d ha hd
  simp only [cond_eq_ite] at h
  split at h
  ·cases h
  split at h
  ·cases h
   exact ⟨.inr ⟨d,_,rfl,hd,rfl⟩,fun h=>(by rw [hc] at h;cases h),fun h=>(by rw [hc] at h;cases h)⟩
  ·exact .two (newBlk_nb h) hc
 ·split at h
  ·simp only [cond_eq_ite] at h
   split at h
   ·exact .pure (ofO_nb h)
   ·cases h
  ·cases h
 ·rename_i t len ps hop
  have hc:cls o=2:=by unfold cls;rw [hop]
  split at h
  ·split at h
   ·cases h
   split at h
   ·cases h
   split at h
   ·cases h
   simp only [cond_eq_ite] at h
   split at h
   ·cases h
   split at h
   ·exact .two (newBlk_nb h) hc
   ·exact .two (ofO_nb h).1 hc
  ·cases h
 ·rename_i t x hop
  have hc:cls o=1:=by unfold cls;rw [hop]
  simp only [Option.bind_eq_some_iff] at h
  obtain ⟨y,hy,h⟩:=h
  obtain ⟨h1,h2⟩:=loadAt_nb h
  exact ⟨.inl h1,fun h=>(by rw [hc] at h;cases h),fun _=>h2⟩
 ·rename_i t x y hop
  have hc:cls o=2:=by unfold cls;rw [hop]
  split at h
  ·exact .two (storeAt_nb h) hc
  ·cases h
 ·split at h
  all_goals first
   | exact .pure (pureR_nb h fun _ h=>TV.noConfusion h)
   | cases h
 ·split at h
  ·exact .pure (ofO_nb h)
  ·cases h
 ·split at h
  ·exact .pure (ofO_nb h)
  ·cases h
 ·rename_i s d x hop
  have hc:cls o=2:=by unfold cls;rw [hop]
  split at h
  ·exact .two (convE_nb h) hc
  ·cases h
 ·split at h
  ·split at h
   ·cases h
   ·exact .pure (ofO_nb h)
  ·cases h
 ·split at h
  ·exact .pure (ofO_nb h)
  ·cases h
 ·rename_i t l c hop
  have hc:cls o=2:=by unfold cls;rw [hop]
  split at h
  ·split at h
   ·cases h
   simp only [cond_eq_ite] at h
   split at h
   ·exact .two (newBlk_nb h) hc
   ·cases h
  ·cases h
 ·rename_i t x lo hi mx hop
  have hc:cls o=1:=by unfold cls;rw [hop]
  split at h
  ·rename_i a _ _ _ _ _ _ _
   simp only [Option.map_eq_some_iff] at h
   obtain ⟨y,hy,rfl⟩:=h
   have:slFp a = .z∨slFp a = .hr:=by
    cases a with
    | v z=>cases z <;> first | exact .inl rfl | exact .inr rfl
    | _=>exact .inl rfl
   exact ⟨.inl ⟨fun _ h=>TV.noConfusion h,fun d h=>by rcases this with e | e <;> (dsimp only at h;rw [e] at h;cases h)⟩,fun h=>(by rw [hc] at h;cases h),fun _=>this.imp id .inl⟩
  ·cases h
 ·split at h
  ·simp only [Option.bind_eq_some_iff] at h
   obtain ⟨y,hy,h⟩:=h
   exact .pure (pureR_nb h (fieldAddr_nbx hy))
  ·cases h
 ·split at h
  ·split at h
   ·exact .pure (ofO_nb h)
   ·cases h
  ·cases h
 ·split at h
  ·simp only [Option.bind_eq_some_iff] at h
   obtain ⟨y,hy,h⟩:=h
   exact .pure (pureR_nb h (indexAddr_nbx hy))
  ·cases h
 ·split at h
  ·exact .pure (ofO_nb h)
  ·cases h
 ·split at h
  ·exact .pure (ofO_nb h)
  ·cases h
 ·rename_i t x hop
  have hc:cls o=2:=by unfold cls;rw [hop]
  split at h
  ·exact .two (rangeE_hw h).nb hc
  ·cases h
 ·rename_i x s hop
  have hc:cls o=2:=by unfold cls;rw [hop]
  split at h
  ·exact .two (nextE_hw h).nb hc
  ·cases h
 ·rename_i t hop
  exact .two (makeMapE_hw h).nb (by unfold cls;rw [hop])
 ·rename_i t m k x hop
  have hc:cls o=2:=by unfold cls;rw [hop]
  split at h
  ·exact .two (mapUpdateE_hw h).nb hc
  ·cases h
 ·rename_i t m k q hop
  have hc:cls o=2:=by unfold cls;rw [hop]
  split at h
  ·exact .two (lookupE_hw h).nb hc
  ·cases h
 ·rename_i c hop
  split at h
  ·cases h
  split at h
  ·rename_i b hcb
   obtain ⟨h1,h2⟩:=builtinE_nb h
   have hc:∀ n,cls o=n→(b = .len∨b = .min∨b = .max)∧n=0∨n=2:=fun n hn=>by
    unfold cls at hn;rw [hop] at hn;simp only [hcb] at hn
    cases b <;> first | exact .inr hn.symm | exact .inl ⟨by simp,hn.symm⟩
   refine ⟨.inl h1,fun hz => ?_,fun hz => ?_⟩
   ·rcases hc _ hz with h | h
    ·exact h2 h.1
    ·cases h
   ·rcases hc _ hz with h | h
    ·cases h.2
    ·cases h
  ·rename_i f hcf
   have hc:cls o=2:=by unfold cls;rw [hop];simp only [hcf]
   split at h
   ·exact .two (callE_nb h) hc
   ·cases h
  ·cases h
 ·cases h
end
section
variable {P : Program} {C : Cfg} {call : CallF} {fl : Nat} {me : FuncId} {ops : Array Oper}

/-- an operation or its omission -/
def evSel (C : Cfg) (call : CallF) (fl : Nat) (me : FuncId) (ops : Array Oper) (o : Oper) (st : St) : Option Res :=
  match wantedE ops.toList st.tmps o with
  | some true => evOp C call fl me o st
  | some false => some ⟨.sk, st.tmps, st.hp, .z⟩
  | none => none

theorem evOne_sel {o : Oper} {st st' : St} {f : Fp} : evOne C call fl me ops.toList o st = some (st', f) ↔
    ∃ r t, evSel C call fl me ops o st = some r ∧ put r.tmps o.dst r.val = some t ∧ st' = ⟨t, r.hp⟩ ∧ f = r.fp := by
  unfold evOne evSel
  constructor
  · intro h
    split at h
    · split at h
      · rename_i r hr
        split at h
        · rename_i t ht; cases h; exact ⟨r, t, by simp only [*], ht, rfl, rfl⟩
        · cases h
      · cases h
    · split at h
      · rename_i t ht; cases h; exact ⟨⟨.sk, st.tmps, st.hp, .z⟩, t, by simp only [*], ht, rfl, rfl⟩
      · cases h
    · cases h
  · rintro ⟨r, t, hr, ht, rfl, rfl⟩
    split at hr
    · simp only [*]
    · cases hr; dsimp only at ht ⊢; simp only [*]
    · cases hr

def view (ts : List TV) (t : Nat) : Option TV :=
  match getAt ts t with
  | some (.bx _) => some (.lp t 0)
  | x => x

def SameV (l : List Tmp) (ts ts' : List TV) : Prop := ∀ t ∈ l, view ts' t = view ts t

theorem opnd_tmp (ts : List TV) (t : Nat) : opnd C ts (.tmp t) = match view ts t with | some x => some x | none => some .sk := by
  unfold view
  simp only [opnd]
  cases getAt ts t with
  | none => rfl
  | some x => cases x <;> rfl

theorem opnd_view {ts ts' : List TV} {x : Operand} (h : ∀ t, x = .tmp t → view ts' t = view ts t) : opnd C ts' x = opnd C ts x := by
  cases x with
  | tmp t => rw [opnd_tmp, opnd_tmp, h t rfl]
  | _ => rfl

theorem wanted_view {o : Oper} {ts ts' : List TV} (h : ∀ j want g d, o.guard = some (j, want) → ops[j]? = some g → g.dst = some d → view ts' d = view ts d) :
    wantedE ops.toList ts' o = wantedE ops.toList ts o := by
  unfold wantedE
  cases hg : o.guard with
  | none => rfl
  | some p =>
    obtain ⟨j, want⟩ := p
    simp only [getAt_eq, Array.getElem?_toList]
    cases ho : ops[j]? with
    | none => rfl
    | some g =>
      cases hd : g.dst with
      | none => simp only [hd]
      | some d =>
        simp only [hd]
        have hv := h j want g d hg ho hd
        unfold view at hv
        rw [getAt_eq, getAt_eq] at hv
        generalize ts'[d]? = a at hv ⊢
        generalize ts[d]? = b at hv ⊢
        rcases a with _ | a <;> rcases b with _ | b <;> (try cases a) <;> (try cases b) <;> first
          | rfl
          | (cases hv; rfl)
          | (cases hv; done)

theorem looks_opnd {o : Oper} {ts ts' : List TV} (h : SameV (o.looksAt ops) ts ts') : SameOn C o ts ts' := fun x hx => opnd_view fun t ht => h t (by
  subst ht
  exact List.mem_append_left _ (List.mem_filterMap.2 ⟨.tmp t, by simpa using hx, rfl⟩))

theorem looks_wanted {o : Oper} {ts ts' : List TV} (h : SameV (o.looksAt ops) ts ts') : wantedE ops.toList ts' o = wantedE ops.toList ts o :=
  wanted_view fun j want g d hg ho hd => h d (by
    refine List.mem_append_right _ ?_
    simp only [hg, ho, Option.bind_some, hd, Option.toList_some, List.mem_singleton])

theorem evSel_local (hkeep : CallKeeps C call) {o : Oper} {st : St} {r : Res} (h : evSel C call fl me ops o st = some r) : LocalOp (evSel C call fl me ops o) (SameV (o.looksAt ops)) st r := by
  unfold evSel at h
  split at h
  · rename_i hw
    exact ((evOp_local hkeep h).weaken fun ts' => looks_opnd).congr fun ts' hp' q => by unfold evSel; simp only [looks_wanted q, hw]
  · rename_i hw
    cases h
    exact local_pure .sk .z (.inl rfl) rfl fun ts' hp' q => by unfold evSel; simp only [looks_wanted q, hw]
  · cases h

theorem evSel_facts {o : Oper} {st : St} {r : Res} (h : evSel C call fl me ops o st = some r) : Facts o r := by
  unfold evSel at h
  split at h
  · exact evOp_facts h
  · cases h; exact .pure ⟨⟨fun _ h => TV.noConfusion h, fun _ h => Fp.noConfusion h⟩, rfl⟩
  · cases h

def setD (ts : List TV) (dst : Option Nat) (v : TV) : List TV :=
  match dst with
  | some d => ts.set d v
  | none => ts

def Slot (ts : List TV) (d : Nat) : Prop := d < ts.length ∧ slotCells ts d = none

theorem put_iff {ts t' : List TV} {dst : Option Tmp} {v : TV} : put ts dst v = some t' ↔ t' = setD ts dst v ∧ ∀ d, dst = some d → Slot ts d := by
  unfold put
  cases dst with
  | none => simp [setD, eq_comm]
  | some d =>
    simp only [getAt_eq, setD, Slot, slotCells]
    constructor
    · intro h
      split at h
      · cases h
      · rename_i y hb hy
        cases h
        refine ⟨setAt_eq _ _ _, fun e he => ?_⟩
        cases he
        refine ⟨(List.getElem?_eq_some_iff.1 hy).1, ?_⟩
        rw [hy]
        cases y <;> first | rfl | exact (hb _ rfl).elim
      · cases h
    · rintro ⟨rfl, h⟩
      obtain ⟨h1, h2⟩ := h d rfl
      rw [List.getElem?_eq_getElem h1] at h2 ⊢
      cases hz : ts[d] <;> rw [hz] at h2 <;> first | (cases h2; done) | (simp only [setAt_eq])

theorem setD_view {ts : List TV} {dst : Option Nat} {v : TV} {t : Nat} (h : dst ≠ some t) : view (setD ts dst v) t = view ts t := by
  cases dst with
  | none => rfl
  | some d =>
    have hne : d ≠ t := fun e => h (by rw [e])
    simp only [view, setD, getAt_eq, List.getElem?_set_ne hne]

theorem setD_cells {ts : List TV} {dst : Option Nat} {v : TV} {t : Nat} (h : dst ≠ some t) : slotCells (setD ts dst v) t = slotCells ts t := by
  cases dst with
  | none => rfl
  | some d =>
    have hne : d ≠ t := fun e => h (by rw [e])
    simp only [slotCells, setD, getAt_eq, List.getElem?_set_ne hne]

theorem setD_len (ts : List TV) (dst : Option Nat) (v : TV) : (setD ts dst v).length = ts.length := by
  cases dst <;> simp [setD]

theorem setD_comm {ts : List TV} {a b : Option Nat} {u v : TV} (h : ∀ t, a = some t → b ≠ some t) : setD (setD ts a u) b v = setD (setD ts b v) a u := by
  cases a with
  | none => rfl
  | some a =>
    cases b with
    | none => rfl
    | some b => exact List.set_comm _ _ fun e => h a rfl (by rw [e])

def lwOf : Fp → Option Nat
  | .lw t => some t
  | _ => none

theorem wrS_eq (f : Fp) (c : List AV) (ts : List TV) : wrS f c ts = setD ts (lwOf f) (.bx c) := by
  cases f <;> first | rfl | exact setAt_eq _ _ _

theorem wrS_len (f : Fp) (c : List AV) (ts : List TV) : (wrS f c ts).length = ts.length := by rw [wrS_eq, setD_len]

theorem has_slot {ts : List TV} {t : Nat} {cs : List AV} (h : slotCells ts t = some cs) : ts[t]? = some (.bx cs) := by
  unfold slotCells at h
  rw [getAt_eq] at h
  split at h
  · rename_i cs' hc; cases h; exact hc
  · cases h

theorem wrS_view {f : Fp} {c : List AV} {ts : List TV} (h : Has f ts) (t : Nat) : view (wrS f c ts) t = view ts t := by
  rw [wrS_eq]
  by_cases ht : lwOf f = some t
  · cases f <;> first | (cases ht; done) | skip
    cases ht
    obtain ⟨cs, hcs⟩ := h
    have h1 := has_slot hcs
    simp only [lwOf, setD, view, getAt_eq, h1]
    rw [List.getElem?_set_self (List.getElem?_eq_some_iff.1 h1).1]
  · exact setD_view ht

theorem wrS_none {f : Fp} {c : List AV} {ts : List TV} (h : Has f ts) (t : Nat) : slotCells (wrS f c ts) t = none ↔ slotCells ts t = none := by
  rw [wrS_eq]
  by_cases ht : lwOf f = some t
  · cases f <;> first | (cases ht; done) | skip
    cases ht
    obtain ⟨cs, hcs⟩ := h
    have h1 := has_slot hcs
    rw [hcs]
    simp only [lwOf, setD, slotCells, getAt_eq]
    rw [List.getElem?_set_self (List.getElem?_eq_some_iff.1 h1).1]
    simp
  · rw [setD_cells ht]

theorem wrS_slot {f : Fp} {c : List AV} {ts : List TV} (h : Has f ts) (t : Nat) : Slot (wrS f c ts) t ↔ Slot ts t := by
  unfold Slot; rw [wrS_len, wrS_none h]

theorem setD_slot {ts : List TV} {dst : Option Nat} {v : TV} {t : Nat} (h : dst ≠ some t) : Slot (setD ts dst v) t ↔ Slot ts t := by
  unfold Slot; rw [setD_len, setD_cells h]

theorem slot_not {ts : List TV} {t : Nat} {cs : List AV} (h : slotCells ts t = some cs) : ¬ Slot ts t := fun k => by rw [k.2] at h; cases h

/-- Two operations that are apart, and do not clash, may change places. -/
theorem blk_old {hp x : List Blk} {b : Nat} (h : b < hp.length) : blkCells (hp ++ x) b = blkCells hp b := by
  unfold blkCells; rw [getAt_eq, getAt_eq, List.getElem?_append_left h]
theorem blk_more {hp x : List Blk} {b : Nat} {cs : List AV} (h : blkCells hp b = some cs) : blkCells (hp ++ x) b = some cs := by
  have : b < hp.length := by
    rcases Nat.lt_or_ge b hp.length with h' | h'
    · exact h'
    · exfalso
      unfold blkCells at h
      rw [getAt_eq, List.getElem?_eq_none h'] at h
      cases h
  rw [blk_old this]; exact h

theorem swap (hkeep : CallKeeps C call) {x y : Oper} {s s1 s2 : St} {fx fy : Fp} (hx : evOne C call fl me ops.toList x s = some (s1, fx)) (hy : evOne C call fl me ops.toList y s1 = some (s2, fy))
    (hap : x.apart ops y = true) (hcl : fx.clash fy = false) : ∃ s1', evOne C call fl me ops.toList y s = some (s1', fy) ∧ evOne C call fl me ops.toList x s1' = some (s2, fx) := by
  obtain ⟨p1, p2, p3⟩ := Oper.apart_spec hap
  obtain ⟨rx, tx, hxs, hxp, rfl, rfl⟩ := evOne_sel.1 hx
  obtain ⟨ry, ty, hys, hyp, rfl, rfl⟩ := evOne_sel.1 hy
  obtain ⟨cx, ax, bx, dx, lx⟩ := evSel_local hkeep hxs
  obtain ⟨cy, ay, by1, dy, ly⟩ := evSel_local hkeep hys
  have Fx := evSel_facts hxs
  obtain ⟨hxt, hxq⟩ := put_iff.1 hxp
  obtain ⟨hyt, hyq⟩ := put_iff.1 hyp
  clear hxp hyp hx hy
  subst hyt
  rw [bx] at hxt hxq
  subst hxt
  dsimp only at ay by1 dy ly
  rw [by1] at hyq
  have hxp := hxq
  have hyp := hyq
  -- the box that the second one touches is no box of the first one's
  have nd : ∀ t cs, (ry.fp = .lr t ∨ ry.fp = .lw t) → slotCells (setD (wrS rx.fp cx s.tmps) x.dst rx.val) t = some cs → x.dst ≠ some t := fun t cs hf hc hd => by
    have hsl := hxp t hd
    rw [hd] at hc
    have hv : rx.val = .bx cs := by
      have := has_slot hc
      simp only [setD] at this
      rw [List.getElem?_set_self hsl.1] at this
      exact Option.some.inj this
    rcases Fx.bx with hnb | ⟨d, cs', h1, h2, h3⟩
    · exact hnb.1 cs hv
    · rw [hd] at h2; cases h2
      rw [h1] at hcl
      rcases hf with hf | hf <;> rw [hf] at hcl <;> simp [Fp.clash] at hcl
  have nl : ∀ t, (ry.fp = .lr t ∨ ry.fp = .lw t) → lwOf rx.fp ≠ some t := fun t hf hl => by
    cases hfx : rx.fp <;> rw [hfx] at hl hcl <;> first | (cases hl; done) | skip
    cases hl
    rcases hf with hf | hf <;> rw [hf] at hcl <;> simp [Fp.clash] at hcl
  have same : ∀ t cs, (ry.fp = .lr t ∨ ry.fp = .lw t) → slotCells (setD (wrS rx.fp cx s.tmps) x.dst rx.val) t = some cs → slotCells s.tmps t = slotCells (setD (wrS rx.fp cx s.tmps) x.dst rx.val) t := fun t cs hf hc => by
    rw [setD_cells (nd t cs hf hc), wrS_eq, setD_cells (nl t hf)]
  have hasy : Has ry.fp s.tmps := by
    cases hf : ry.fp <;> rw [hf] at ay <;> try exact trivial
    case lr t => obtain ⟨cs, hc⟩ := ay; exact ⟨cs, (same t cs (.inl hf) hc).trans hc⟩
    case lw t => obtain ⟨cs, hc⟩ := ay; exact ⟨cs, (same t cs (.inr hf) hc).trans hc⟩
  have e1 := ly s.tmps s.hp (fun t ht => by
      rw [setD_view (fun h => p1 t h ht), wrS_view ax])
    (by
      cases hf : ry.fp <;> try exact trivial
      case lr t => rw [hf] at ay; obtain ⟨cs, hc⟩ := ay; exact same t cs (.inl hf) hc
      case lw t => rw [hf] at ay; obtain ⟨cs, hc⟩ := ay; exact same t cs (.inr hf) hc)
    (by
      cases hf : ry.fp <;> cases hg : rx.fp <;> rw [hf, hg] at hcl <;> first | (simp [Fp.clash] at hcl; done) | skip
      all_goals (rw [hg] at dx; first
        | exact trivial
        | exact dx.symm
        | (intro b cs hb; have dx : rx.hp = s.hp := dx; rw [dx] at hb; exact hb)
        | (intro cs hb; have dx : rx.hp = s.hp := dx; rw [dx] at hb; exact hb)
        | (obtain ⟨dx1, dx2, dx3⟩ := dx
           intro cs hb
           simp only [Fp.clash, decide_eq_false_iff_not] at hcl
           rw [dx3, blk_old (by omega)] at hb
           exact hb)))
  -- the slots
  have sy : ∀ d, y.dst = some d → Slot s.tmps d := fun d hd => by
    have h := (wrS_slot ay d).1 (hyp d hd)
    have hne : x.dst ≠ some d := fun h => p2 d h hd
    exact (wrS_slot ax d).1 ((setD_slot hne).1 h)
  have sx : ∀ d, x.dst = some d → Slot s.tmps d := fun d hd => (wrS_slot ax d).1 (hxp d hd)
  have nyx : ∀ t cs, slotCells s.tmps t = some cs → y.dst ≠ some t := fun t cs hc hd => slot_not hc (sy t hd)
  have hne2 : ∀ t, (rx.fp = .lr t ∨ rx.fp = .lw t) → lwOf ry.fp ≠ some t := fun t hf hl => by
    cases hfy : ry.fp <;> rw [hfy] at hl hcl <;> first | (cases hl; done) | skip
    cases hl
    rcases hf with hf | hf <;> rw [hf] at hcl <;> simp [Fp.clash] at hcl
  have same2 : ∀ t cs, (rx.fp = .lr t ∨ rx.fp = .lw t) → slotCells s.tmps t = some cs → slotCells (setD (wrS ry.fp cy s.tmps) y.dst ry.val) t = slotCells s.tmps t := fun t cs hf hc => by
    rw [setD_cells (nyx t cs hc), wrS_eq, setD_cells (hne2 t hf)]
  refine ⟨⟨setD (wrS ry.fp cy s.tmps) y.dst ry.val, hpOut ry.fp ry.hp s.hp⟩, evOne_sel.2 ⟨_, _, e1, put_iff.2 ⟨rfl, fun d hd => (wrS_slot hasy d).2 (sy d hd)⟩, rfl, rfl⟩, ?_⟩
  have hasx : Has rx.fp (setD (wrS ry.fp cy s.tmps) y.dst ry.val) := by
    cases hf : rx.fp <;> rw [hf] at ax <;> try exact trivial
    case lr t => obtain ⟨cs, hc⟩ := ax; exact ⟨cs, (same2 t cs (.inl hf) hc).trans hc⟩
    case lw t => obtain ⟨cs, hc⟩ := ax; exact ⟨cs, (same2 t cs (.inr hf) hc).trans hc⟩
  have e2 := lx (setD (wrS ry.fp cy s.tmps) y.dst ry.val) (hpOut ry.fp ry.hp s.hp) (fun t ht => by
      rw [setD_view (fun h => p3 t h ht), wrS_view hasy])
    (by
      cases hf : rx.fp <;> try exact trivial
      case lr t => rw [hf] at ax; obtain ⟨cs, hc⟩ := ax; exact same2 t cs (.inl hf) hc
      case lw t => rw [hf] at ax; obtain ⟨cs, hc⟩ := ax; exact same2 t cs (.inr hf) hc)
    (by
      cases hf : rx.fp <;> cases hg : ry.fp <;> rw [hf, hg] at hcl <;> first | (simp [Fp.clash] at hcl; done) | skip
      all_goals (rw [hf] at dx; rw [hg] at dy; first
        | exact trivial
        | rfl
        | (intro b cs hb; exact hb)
        | (intro cs hb; exact hb)
        | (intro b cs hb; have dx : rx.hp = s.hp := dx; rw [dx] at dy; exact dy b cs hb)
        | (intro cs hb; have dx : rx.hp = s.hp := dx; rw [dx] at dy; exact dy _ cs hb)
        | (have dx : rx.hp = s.hp := dx
           obtain ⟨dy1, dy2, dy3⟩ := dy
           intro b cs hb
           rw [dx] at dy3
           have := blk_more (x := dy2) hb
           rw [← dy3] at this
           exact this)
        | (have dx : rx.hp = s.hp := dx
           obtain ⟨dy1, dy2, dy3⟩ := dy
           intro cs hb
           rw [dx] at dy3
           have := blk_more (x := dy2) hb
           rw [← dy3] at this
           exact this)))
  have hheap : hpOut rx.fp rx.hp (hpOut ry.fp ry.hp s.hp) = ry.hp := by
    cases hf : rx.fp <;> cases hg : ry.fp <;> rw [hf, hg] at hcl <;> first | (simp [Fp.clash] at hcl; done) | skip
    all_goals (rw [hf] at dx; rw [hg] at dy; first | rfl | exact dy.symm | exact (dy.trans dx).symm)
  rw [hheap] at e2
  refine evOne_sel.2 ⟨_, _, e2, put_iff.2 ⟨?_, fun d hd => (wrS_slot hasx d).2 ((setD_slot (fun h => p2 d hd h)).2 ((wrS_slot hasy d).2 (sx d hd)))⟩, rfl, rfl⟩
  rw [by1]
  simp only [wrS_eq]
  have q1 : ∀ t, lwOf ry.fp = some t → x.dst ≠ some t := fun t ht => by
    cases hf : ry.fp <;> rw [hf] at ht ay <;> first | (cases ht; done) | skip
    cases ht
    obtain ⟨cs, hc⟩ := ay
    exact nd _ cs (.inr hf) hc
  have q2 : ∀ t, lwOf rx.fp = some t → y.dst ≠ some t := fun t ht => by
    cases hf : rx.fp <;> rw [hf] at ht ax <;> first | (cases ht; done) | skip
    cases ht
    obtain ⟨cs, hc⟩ := ax
    exact nyx _ cs hc
  have q3 : ∀ t, lwOf ry.fp = some t → lwOf rx.fp ≠ some t := fun t ht => by
    cases hf : ry.fp <;> rw [hf] at ht <;> first | (cases ht; done) | skip
    cases ht
    exact nl _ (.inr hf)
  have swap4 : ∀ (a b c d : Option Nat) (ta tb tc td : TV) (ts : List TV), (∀ t, c = some t → b ≠ some t) → (∀ t, a = some t → d ≠ some t) → (∀ t, c = some t → a ≠ some t) → (∀ t, b = some t → d ≠ some t) →
      setD (setD (setD (setD ts a ta) b tb) c tc) d td = setD (setD (setD (setD ts c tc) d td) a ta) b tb := fun a b c d ta tb tc td ts h1 h2 h3 h4 => by
    rw [setD_comm (a := b) (b := c) fun t hb hc => h1 t hc hb, setD_comm (a := a) (b := c) fun t ha hc => h3 t hc ha, setD_comm (a := b) (b := d) h4, setD_comm (a := a) (b := d) h2]
  exact swap4 (lwOf rx.fp) x.dst (lwOf ry.fp) y.dst _ _ _ _ s.tmps q1 q2 q3 p2
end
section
variable {P : Program} {C : Cfg} {call : CallF} {fl : Nat} {me : FuncId} {ops : Array Oper}

theorem Inv.drew {glob : Nat → Option AV} {B : Nat} {w0 w : World} {L : Lay} {hp : List Blk} (h : Inv glob B w0 L w hp) : Inv glob B w0 L w.drew hp := by
  have e : ∀ n, Ext n L w L w.drew := fun n => ⟨fun _ _ h => ⟨h, rfl⟩, fun _ _ _ h => ⟨h, fun _ _ h => h, rfl⟩, fun _ F _ h => ⟨F, h, .inl rfl⟩, Nat.le_refl _, fun _ _ _ => rfl, fun _ _ _ h => h⟩
  refine ⟨h.below.drew, h.size, fun b cs hb => ?_, h.own, h.fams, h.spare, h.fresh, h.noLoc, h.noFam, fun g v hg => (h.globs g v hg).mono (Nat.le_refl _) (e 0), h.objs.keep (e _) (fun _ _ _ _ => rfl) (fun _ _ h _ => h) (fun _ _ h => h) (Nat.le_refl _), h.kept⟩
  obtain ⟨p, h1, h2, h3⟩ := h.blks b cs hb
  refine ⟨p, h1, h2, fun j c hj => ?_⟩
  obtain ⟨k1, k2, rv, k3, k4⟩ := h3 j c hj
  exact ⟨k1, k2, rv, k3, k4.mono (Nat.le_refl _) (e _)⟩

theorem Ext.drew (n : Nat) (L : Lay) (w : World) : Ext n L w L w.drew := ⟨fun _ _ h => ⟨h, rfl⟩, fun _ _ _ h => ⟨h, fun _ _ h => h, rfl⟩, fun _ F _ h => ⟨F, h, .inl rfl⟩, Nat.le_refl _, fun _ _ _ => rfl, fun _ _ _ h => h⟩
theorem KeepLoc.drew (s : Nat) (L : Lay) (w : World) : KeepLoc s L w L w.drew := fun _ _ _ _ h => ⟨h, rfl, rfl⟩

theorem Post.trans {B : Nat} {w0 : World} {base : Nat} {L L1 : Lay} {w w1 : World} {n n1 : Nat} {hp' : List Blk} {ts' : List TV} {ds : List Deferred} {a' : Act} {w' : World} (hn : n ≤ n1) (he : Ext n L w L1 w1) (hk : KeepLoc base L w L1 w1) (hs : w.heap.size ≤ w1.heap.size)
    (h : Post C B w0 base L1 w1 n1 hp' ts' ds a' w') : Post C B w0 base L w n hp' ts' ds a' w' := by
  obtain ⟨L', h1, h2, h3, h4, h5, h6, h7⟩ := h
  exact ⟨L', h1, he.trans hn h2, hk.trans (Nat.le_refl _) h3, Nat.le_trans hs h4, Nat.le_trans hn h5, h6, h7⟩

theorem VR.bool_inv {n : Nat} {L : Lay} {w : World} {x : AV} {b : Bool} (h : VR n L w x (.bool b)) : x = .bool b := by cases h; rfl

theorem wanted_ok {n base : Nat} {L : Lay} {w : World} {ts : List TV} {rt : Array Value} {o : Oper} {b : Bool} (hF : FR n L w base ts rt) (h : wantedE ops.toList ts o = some b) : Region.wanted o (yielded ops rt) = b := by
  unfold wantedE at h
  unfold Region.wanted
  cases hg : o.guard with
  | none => rw [hg] at h; exact Option.some.inj h
  | some p =>
    obtain ⟨j, want⟩ := p
    rw [hg] at h
    simp only [getAt_eq, Array.getElem?_toList] at h ⊢
    unfold yielded
    cases ho : ops[j]? with
    | none => rw [ho] at h; simp only at h; cases h; rfl
    | some g =>
      rw [ho] at h
      simp only [Option.bind_some] at h ⊢
      cases hd : g.dst with
      | none => rw [hd] at h; simp only at h; cases h; rfl
      | some d =>
        rw [hd] at h
        simp only [Option.bind_some] at h ⊢
        cases hx : ts[d]? with
        | none => rw [hx] at h; cases h
        | some x =>
          have hd : d < rt.size := by have := (List.getElem?_eq_some_iff.1 hx).1; rw [hF.len] at this; exact this
          have hv := hF.slot d x hx
          rw [hx] at h
          have hrt : rt[d]? = some (rt.getD d undef) := by simp [Array.getD, hd]
          rw [hrt]
          cases x with
          | junk => cases h
          | bx cs => cases h
          | lp t off => cases h
          | sk =>
            cases h
            have hv : rt.getD d undef = undef := hv
            rw [hv]
            rfl
          | v y =>
            have hv : VR n L w y (rt.getD d undef) := hv
            generalize rt.getD d undef = v at hv ⊢
            by_cases hy : ∃ c, v = .bool c
            · obtain ⟨c, rfl⟩ := hy
              have := hv.bool_inv
              subst this
              cases h
              cases c <;> cases want <;> rfl
            · have hn : b = false := by
                cases y with
                | bool c => cases hv; exact absurd ⟨c, rfl⟩ hy
                | _ => cases h; rfl
              subst hn
              cases v with
              | bool c => exact absurd ⟨c, rfl⟩ hy
              | _ => rfl

section
variable {B base : Nat} {w0 w : World} {L : Lay} {ds : List Deferred} {Q : Exit → Act → World → Prop}

theorem one_ok (hT : TysOK P C) (hcall : CallOK P C call) {o : Oper} {j : Nat} (hj : ops[j]? = some o) {st st' : St} {f : Fp} {a : Act} {K : Act → World → Prop} (hI : Inv C.glob B w0 L w st.hp) (hF : FR st.hp.length L w base st.tmps a.tmps)
    (hd : a.defers = ds) (hBb : B ≤ base) (hbw : base ≤ w.heap.size) (h : evOne C call fl me ops.toList o st = some (st', f))
    (hK : ∀ a' w', Post C B w0 base L w st.hp.length st'.hp st'.tmps ds a' w' → K a' w') : wpOp P ops Q j K a w := by
  unfold wpOp
  simp only [hj]
  obtain ⟨r, t, hr, hp, rfl, rfl⟩ := evOne_sel.1 h
  obtain ⟨rt, ds'⟩ := a
  cases hd
  unfold evSel at hr
  split at hr
  · rename_i hw
    rw [wanted_ok hF hw, if_pos rfl]
    exact .inl (evOp_ok hT hcall hI hF hBb hbw hr hp hK)
  · rename_i hw
    rw [wanted_ok hF hw]
    simp only [Bool.false_eq_true, if_false]
    cases hr
    exact hK _ _ ⟨L, hI, Ext.refl _ _ _, KeepLoc.refl _ _ _, Nat.le_refl _, Nat.le_refl _, put_ok hp hF fun d _ => rfl, put_act _ _⟩
  · cases hr

/-- operations in the order of the text -/
theorem ops_ok (hT : TysOK P C) (hcall : CallOK P C call) (hBb : B ≤ base) : ∀ (l : List Oper) (k : Nat) (st st' : St) (fps : List Fp) (a : Act) (w : World) (L : Lay), (∀ j, l[j]? = ops[k + j]?) →
    Inv C.glob B w0 L w st.hp → FR st.hp.length L w base st.tmps a.tmps → a.defers = ds → base ≤ w.heap.size → runOps C call fl me ops.toList l st = some (st', fps) →
    (∀ a' w', Post C B w0 base L w st.hp.length st'.hp st'.tmps ds a' w' → Q .normal a' w') → wpOps P ops Q (List.range' k l.length) a w
  | [], k, st, st', fps, a, w, L, _, hI, hF, hd, _, h, hQ => by
    simp only [runOps, Option.some.injEq, Prod.mk.injEq] at h
    obtain ⟨rfl, _⟩ := h
    exact hQ _ _ ⟨L, hI, Ext.refl _ _ _, KeepLoc.refl _ _ _, Nat.le_refl _, Nat.le_refl _, hF, hd⟩
  | o :: l, k, st, st', fps, a, w, L, hl, hI, hF, hd, hbw, h, hQ => by
    have h0 : ops[k]? = some o := by simpa using (hl 0).symm
    simp only [runOps] at h
    split at h
    · rename_i st1 f h1
      split at h
      · rename_i st2 fs h2
        cases h
        rw [List.length_cons, List.range'_succ, wpOps_cons]
        refine one_ok hT hcall h0 hI hF hd hBb hbw h1 fun a1 w1 hp => ?_
        obtain ⟨L1, p1, p2, p3, p4, p5, p6, p7⟩ := hp
        exact ops_ok hT hcall hBb l (k + 1) st1 st' fs a1 w1 L1 (fun j => by have := hl (j + 1); simpa [Nat.add_assoc, Nat.add_comm 1 j] using this) p1 p6 p7 (by omega) h2
          fun a' w' hp => hQ a' w' (hp.trans p5 p2 p3 p4)
      · cases h
    · cases h

/-! ### operations in any order -/
def RunI (C : Cfg) (call : CallF) (fl : Nat) (me : FuncId) (ops : Array Oper) (φ : Nat → Fp) : List (Nat × Oper) → St → St → Prop
  | [], s, s' => s = s'
  | (i, o) :: rest, s, s' => ∃ s1, evOne C call fl me ops.toList o s = some (s1, φ i) ∧ RunI C call fl me ops φ rest s1 s'

def enumF : Nat → List Oper → List (Nat × Oper)
  | _, [] => []
  | k, o :: r => (k, o) :: enumF (k + 1) r

theorem runI_of {φ : Nat → Fp} : ∀ (l : List Oper) (k : Nat) (s s' : St) (fps : List Fp), runOps C call fl me ops.toList l s = some (s', fps) → (∀ j f, fps[j]? = some f → φ (k + j) = f) → RunI C call fl me ops φ (enumF k l) s s'
  | [], k, s, s', fps, h, _ => by simp only [runOps, Option.some.injEq, Prod.mk.injEq] at h; exact h.1
  | o :: l, k, s, s', fps, h, hφ => by
    simp only [runOps] at h
    split at h
    · rename_i st1 f h1
      split at h
      · rename_i st2 fs h2
        cases h
        refine ⟨st1, ?_, runI_of l (k + 1) st1 s' fs h2 fun j f hj => ?_⟩
        · have := hφ 0 f rfl; rw [show k = k + 0 from rfl, this]; exact h1
        · have := hφ (j + 1) f (by simpa using hj); rw [← this]; congr 1; omega
      · cases h
    · cases h

theorem mem_enumF : ∀ (l : List Oper) (k i : Nat) (o : Oper), (i, o) ∈ enumF k l ↔ k ≤ i ∧ l[i - k]? = some o
  | [], k, i, o => by simp [enumF]
  | x :: l, k, i, o => by
    simp only [enumF, List.mem_cons, Prod.mk.injEq, mem_enumF l (k + 1) i o]
    constructor
    · rintro (⟨rfl, rfl⟩ | ⟨h1, h2⟩)
      · simp
      · refine ⟨by omega, ?_⟩
        rw [show i - k = (i - (k + 1)) + 1 by omega]; simpa using h2
    · rintro ⟨h1, h2⟩
      by_cases hk : i = k
      · subst hk; simp at h2; exact .inl ⟨rfl, h2.symm⟩
      · refine .inr ⟨by omega, ?_⟩
        rw [show i - k = (i - (k + 1)) + 1 by omega] at h2; simpa using h2

theorem enumF_sorted : ∀ (l : List Oper) (k : Nat), (enumF k l).Pairwise fun p q => p.1 < q.1
  | [], k => by simp [enumF]
  | x :: l, k => by
    simp only [enumF, List.pairwise_cons]
    exact ⟨fun p hp => by obtain ⟨i, o⟩ := p; have := ((mem_enumF l (k + 1) i o).1 hp).1; show k < i; omega, enumF_sorted l (k + 1)⟩

theorem enumF_len : ∀ (l : List Oper) (k : Nat), (enumF k l).length = l.length
  | [], _ => rfl
  | _ :: l, k => by simp [enumF, enumF_len l]

theorem bubble (hkeep : CallKeeps C call) {φ : Nat → Fp} {j : Nat} {y : Oper} {post : List (Nat × Oper)} : ∀ (pre : List (Nat × Oper)) (s s' : St), RunI C call fl me ops φ (pre ++ (j, y) :: post) s s' →
    (∀ p ∈ pre, p.2.apart ops y = true ∧ (φ p.1).clash (φ j) = false) → ∃ s1, evOne C call fl me ops.toList y s = some (s1, φ j) ∧ RunI C call fl me ops φ (pre ++ post) s1 s'
  | [], s, s', h, _ => h
  | (i, x) :: pre, s, s', h, hp => by
    obtain ⟨s1, h1, h2⟩ := h
    obtain ⟨s2, h3, h4⟩ := bubble hkeep pre s1 s' h2 fun p hm => hp p (List.mem_cons_of_mem _ hm)
    obtain ⟨q1, q2⟩ := hp (i, x) (List.mem_cons_self ..)
    obtain ⟨s3, h5, h6⟩ := swap hkeep h1 h3 q1 q2
    exact ⟨s3, h5, s2, h6, h4⟩

/-- what the orders of a region need -/
structure Loose (ops : Array Oper) (φ : Nat → Fp) (bef : Nat → Nat → Prop) : Prop where
  back : ∀ (j : Nat) o e, ops[j]? = some o → e ∈ o.after → Region.binds .any e = true → e.on < j
  via : ∀ i j, bef i j → ∃ o, ops[j]? = some o ∧ ∃ e ∈ o.after, Region.binds .any e = true ∧ (e.on = i ∨ bef i e.on)
  free : ∀ (i j : Nat) x y, i < j → ops[i]? = some x → ops[j]? = some y → ¬ bef i j → x.apart ops y = true ∧ (φ i).clash (φ j) = false

theorem bef_listed {φ : Nat → Fp} {bef : Nat → Nat → Prop} (hl : Loose ops φ bef) {listed : Array Bool} (hcl : ∀ (j : Nat) o, ops[j]? = some o → listed.getD j false = true → ∀ e ∈ o.after, Region.binds .any e = true → listed.getD e.on false = true) :
    ∀ (j i : Nat) o, ops[j]? = some o → (∀ e ∈ o.after, Region.binds .any e = true → listed.getD e.on false = true) → bef i j → listed.getD i false = true := by
  intro j
  induction j using Nat.strongRecOn with
  | _ j ih =>
    intro i o ho hall hb
    obtain ⟨o', ho', e, he, hbind, h⟩ := hl.via i j hb
    rw [ho] at ho'; cases ho'
    rcases h with rfl | h
    · exact hall e he hbind
    · have hlt := hl.back j o e ho he hbind
      have hel := hall e he hbind
      obtain ⟨p, hp⟩ : ∃ p, ops[e.on]? = some p := by
        obtain ⟨p, hp, _⟩ := hl.via i e.on h
        exact ⟨p, hp⟩
      exact ih e.on hlt i p hp (hcl e.on p hp hel) h

theorem any_ok (hT : TysOK P C) (hcall : CallOK P C call) (hkeep : CallKeeps C call) (hBb : B ≤ base) {φ : Nat → Fp} {bef : Nat → Nat → Prop} (hl : Loose ops φ bef) : ∀ (fuel : Nat) (rest : List (Nat × Oper)) (listed : Array Bool) (s s' : St) (a : Act) (w : World) (L : Lay),
    rest.Pairwise (fun p q => p.1 < q.1) → (∀ i x, (i, x) ∈ rest ↔ ops[i]? = some x ∧ listed.getD i true = false) → listed.size = ops.size → rest.length ≤ fuel →
    (∀ (j : Nat) o, ops[j]? = some o → listed.getD j false = true → ∀ e ∈ o.after, Region.binds .any e = true → listed.getD e.on false = true) →
    Inv C.glob B w0 L w s.hp → FR s.hp.length L w base s.tmps a.tmps → a.defers = ds → base ≤ w.heap.size → RunI C call fl me ops φ rest s s' →
    (∀ a' w', Post C B w0 base L w s.hp.length s'.hp s'.tmps ds a' w' → Q .normal a' w') → wpAny P .any ops Q fuel listed a w := by
  intro fuel
  have none_of : ∀ (rest : List (Nat × Oper)) (listed : Array Bool), (∀ i x, (i, x) ∈ rest ↔ ops[i]? = some x ∧ listed.getD i true = false) → rest = [] → Region.ready .any ops listed = [] := fun rest listed hm hr => by
    apply List.eq_nil_iff_forall_not_mem.2
    intro j hj
    obtain ⟨h1, o, h2, _⟩ := mem_ready.1 hj
    have := (hm j o).2 ⟨h2, h1⟩
    rw [hr] at this
    cases this
  have fin : ∀ (rest : List (Nat × Oper)) (s s' : St) (a : Act) (w : World) (L : Lay), rest = [] → Inv C.glob B w0 L w s.hp → FR s.hp.length L w base s.tmps a.tmps → a.defers = ds → RunI C call fl me ops φ rest s s' →
      (∀ a' w', Post C B w0 base L w s.hp.length s'.hp s'.tmps ds a' w' → Q .normal a' w') → Q .normal a w := fun rest s s' a w L hr hI hF hd h hQ => by
    subst hr
    have h : s = s' := h
    subst h
    exact hQ _ _ ⟨L, hI, Ext.refl _ _ _, KeepLoc.refl _ _ _, Nat.le_refl _, Nat.le_refl _, hF, hd⟩
  induction fuel with
  | zero =>
    intro rest listed s s' a w L _ hm _ hlen _ hI hF hd _ h hQ
    have hr : rest = [] := List.eq_nil_of_length_eq_zero (by omega)
    exact ⟨none_of rest listed hm hr, fin rest s s' a w L hr hI hF hd h hQ⟩
  | succ fuel ih =>
    intro rest listed s s' a w L hs hm hsz hlen hcl hI hF hd hbw h hQ
    refine ⟨fun hn => ?_, fun j hj => ?_⟩
    · refine fin rest s s' a w L ?_ hI hF hd h hQ
      cases hrest : rest with
      | nil => rfl
      | cons p r =>
        exfalso
        obtain ⟨j, y⟩ := p
        obtain ⟨h1, h2⟩ := (hm j y).1 (by rw [hrest]; exact List.mem_cons_self ..)
        have : j ∈ Region.ready .any ops listed := mem_ready.2 ⟨h2, y, h1, fun e he hb => by
          have hlt := hl.back j y e h1 he hb
          have hjs := (Array.getElem?_eq_some_iff.1 h1).1
          have hes : e.on < listed.size := by omega
          cases hle : listed.getD e.on false with
          | true => rfl
          | false =>
            exfalso
            have h3 : (e.on, ops[e.on]'(by omega)) ∈ rest := (hm _ _).2 ⟨Array.getElem?_eq_getElem (by omega), by simp [hes] at hle ⊢; exact hle⟩
            rw [hrest] at h3 hs
            rcases List.mem_cons.1 h3 with h3 | h3
            · have := congrArg Prod.fst h3; dsimp only at this; omega
            · have := (List.pairwise_cons.1 hs).1 _ h3; dsimp only at this; omega⟩
        rw [hn] at this
        cases this
    · obtain ⟨hun, y, hy, hall⟩ := mem_ready.1 hj
      have hmem := (hm j y).2 ⟨hy, hun⟩
      obtain ⟨pre, post, rfl⟩ := List.append_of_mem hmem
      obtain ⟨hs1, hs2, hs3⟩ := List.pairwise_append.1 hs
      obtain ⟨hs4, hs5⟩ := List.pairwise_cons.1 hs2
      obtain ⟨s1, h1, h2⟩ := bubble hkeep pre s s' h fun p hp => by
        obtain ⟨i, x⟩ := p
        have hlt : i < j := hs3 _ hp _ (List.mem_cons_self ..)
        obtain ⟨hx, hix⟩ := (hm i x).1 (List.mem_append_left _ hp)
        refine hl.free i j x y hlt hx hy fun hb => ?_
        have := bef_listed hl hcl j i y hy hall hb
        have his := (Array.getElem?_eq_some_iff.1 hx).1
        have his : i < listed.size := by omega
        simp [his] at this hix
        rw [this] at hix
        cases hix
      refine one_ok hT hcall hy hI hF hd hBb hbw h1 fun a1 w1 hp => ?_
      obtain ⟨L1, p1, p2, p3, p4, p5, p6, p7⟩ := hp
      refine ih (pre ++ post) (listed.setIfInBounds j true) s1 s' a1 w1 L1 ?_ ?_ (by simpa using hsz) ?_ ?_ p1 p6 p7 (by omega) h2 fun a' w' hp => hQ a' w' (hp.trans p5 p2 p3 p4)
      · exact List.pairwise_append.2 ⟨hs1, hs5, fun p hp q hq => hs3 p hp q (List.mem_cons_of_mem _ hq)⟩
      · intro i x
        constructor
        · intro hi
          have hi' : (i, x) ∈ pre ++ (j, y) :: post := by
            rcases List.mem_append.1 hi with hi | hi
            · exact List.mem_append_left _ hi
            · exact List.mem_append_right _ (List.mem_cons_of_mem _ hi)
          obtain ⟨k1, k2⟩ := (hm i x).1 hi'
          refine ⟨k1, ?_⟩
          rw [getD_set_ne]
          · exact k2
          · rintro rfl
            rcases List.mem_append.1 hi with hi | hi
            · have := hs3 _ hi _ (List.mem_cons_self ..); dsimp only at this; omega
            · have := hs4 _ hi; dsimp only at this; omega
        · rintro ⟨k1, k2⟩
          have hne : j ≠ i := by
            rintro rfl
            have hjs := (Array.getElem?_eq_some_iff.1 hy).1
            have : j < listed.size := by omega
            simp [this] at k2
          rw [getD_set_ne true hne] at k2
          rcases List.mem_append.1 ((hm i x).2 ⟨k1, k2⟩) with hi | hi
          · exact List.mem_append_left _ hi
          · rcases List.mem_cons.1 hi with hi | hi
            · have := congrArg Prod.fst hi; dsimp only at this; exact absurd this.symm hne
            · exact List.mem_append_right _ hi
      · simp only [List.length_append, List.length_cons] at hlen ⊢; omega
      · intro k o ho hk e he hb
        by_cases hkj : k = j
        · subst hkj
          rw [hy] at ho; cases ho
          exact getD_set_true (hall e he hb)
        · rw [getD_set_ne false (Ne.symm hkj)] at hk
          exact getD_set_true (hcl k o ho hk e he hb)
end
end
section
variable {P : Program} {C : Cfg} {call : CallF} {fl : Nat} {me : FuncId} {ops : Array Oper}

/-! ### what is told of a region's orders beforehand -/
def maskOf (acc : List Nat) (o : Oper) : Nat :=
  o.after.toList.foldl (fun s e => bif Region.binds .any e then s ||| (2 ^ e.on ||| (acc[e.on]?).getD 0) else s) 0

def masks : List Oper → List Nat → List Nat
  | [], acc => acc
  | o :: r, acc => masks r (acc ++ [maskOf acc o])

def Bef (l : List Oper) (i j : Nat) : Prop := ∃ m, (masks l [])[j]? = some m ∧ m.testBit i = true

theorem maskOf_fold (acc : List Nat) (i : Nat) : ∀ (es : List Edge) (s : Nat), (es.foldl (fun s e => bif Region.binds .any e then s ||| (2 ^ e.on ||| (acc[e.on]?).getD 0) else s) s).testBit i = true →
    s.testBit i = true ∨ ∃ e ∈ es, Region.binds .any e = true ∧ (e.on = i ∨ ((acc[e.on]?).getD 0).testBit i = true)
  | [], s, h => .inl h
  | e :: es, s, h => by
    rw [List.foldl_cons] at h
    rcases maskOf_fold acc i es _ h with h | ⟨e', h1, h2⟩
    · cases hb : Region.binds .any e with
      | false => rw [hb, cond_false rfl] at h; exact .inl h
      | true =>
        rw [hb, cond_true rfl, Nat.testBit_or, Nat.testBit_or, Bool.or_eq_true, Bool.or_eq_true, Nat.testBit_two_pow] at h
        rcases h with h | h | h
        · exact .inl h
        · exact .inr ⟨e, List.mem_cons_self .., hb, .inl (by simpa using h)⟩
        · exact .inr ⟨e, List.mem_cons_self .., hb, .inr h⟩
    · exact .inr ⟨e', List.mem_cons_of_mem _ h1, h2⟩

theorem masks_good (l : List Oper) : ∀ (r pre : List Oper) (acc : List Nat), l = pre ++ r → acc.length = pre.length →
    (∀ (j m : Nat), acc[j]? = some m → ∀ i, m.testBit i = true → ∃ o : Oper, l[j]? = some o ∧ ∃ e ∈ o.after, Region.binds .any e = true ∧ (e.on = i ∨ ∃ m', acc[e.on]? = some m' ∧ m'.testBit i = true)) →
    (∀ (j m : Nat), (masks r acc)[j]? = some m → ∀ i, m.testBit i = true → ∃ o : Oper, l[j]? = some o ∧ ∃ e ∈ o.after, Region.binds .any e = true ∧ (e.on = i ∨ ∃ m', (masks r acc)[e.on]? = some m' ∧ m'.testBit i = true))
  | [], pre, acc, _, _, h => h
  | o :: r, pre, acc, hl, hlen, h => by
    refine masks_good l r (pre ++ [o]) (acc ++ [maskOf acc o]) (by rw [hl]; simp) (by simp [hlen]) fun j m hj i hi => ?_
    have up : ∀ {k m'}, acc[k]? = some m' → (acc ++ [maskOf acc o])[k]? = some m' := fun {k m'} hk => by
      rw [List.getElem?_append_left (List.getElem?_eq_some_iff.1 hk).1]; exact hk
    by_cases hlt : j < acc.length
    · rw [List.getElem?_append_left hlt] at hj
      obtain ⟨o', h1, e, h2, h3, h4⟩ := h j m hj i hi
      exact ⟨o', h1, e, h2, h3, h4.imp id fun ⟨m', k1, k2⟩ => ⟨m', up k1, k2⟩⟩
    · have hjl := (List.getElem?_eq_some_iff.1 hj).1
      simp at hjl
      have hj' : j = acc.length := by omega
      subst hj'
      simp at hj
      subst hj
      rcases maskOf_fold acc i _ _ hi with h0 | ⟨e, h1, h2, h3⟩
      · simp at h0
      · refine ⟨o, by rw [hl, hlen]; simp, e, by simpa using h1, h2, h3.imp id fun hb => ?_⟩
        cases ha : acc[e.on]? with
        | none => rw [ha] at hb; simp at hb
        | some m' => rw [ha] at hb; exact ⟨m', up ha, by simpa using hb⟩

def harmless (x y : Oper) : Bool := cls x == 0 || cls y == 0 || (cls x == 1 && cls y == 1)

def looseB (prs : List (Nat × Nat)) (ops : Array Oper) : Bool :=
  let l := ops.toList
  let ms := masks l []
  let es := enumF 0 l
  es.all fun q => (q.2.after.toList.all fun e => !Region.binds .any e || decide (e.on < q.1)) &&
    es.all fun p => !decide (p.1 < q.1) || (((ms[q.1]?).getD 0).testBit p.1 || (p.2.apart ops q.2 && (harmless p.2 q.2 || prs.any fun x => x.1 == p.1 && x.2 == q.1)))

theorem noClash_spec {fps : List Fp} : ∀ {ps : List (Nat × Nat)}, noClash fps ps = true → ∀ p ∈ ps, ∃ a b, fps[p.1]? = some a ∧ fps[p.2]? = some b ∧ a.clash b = false
  | [], _, p, hp => by cases hp
  | (i, j) :: ps, h, p, hp => by
    simp only [noClash, getAt_eq, Bool.and_eq_true] at h
    obtain ⟨h1, h2⟩ := h
    rcases List.mem_cons.1 hp with rfl | hp
    · split at h1
      · rename_i a b ha hb; exact ⟨a, b, ha, hb, by simpa using h1⟩
      · cases h1
    · exact noClash_spec h2 p hp

theorem runI_facts {φ : Nat → Fp} : ∀ (l : List (Nat × Oper)) (s s' : St), RunI C call fl me ops φ l s s' → ∀ p ∈ l, (cls p.2 = 0 → φ p.1 = .z) ∧ (cls p.2 = 1 → φ p.1 = .z ∨ φ p.1 = .hr ∨ (∃ b, φ p.1 = .hb b) ∨ ∃ t, φ p.1 = .lr t)
  | [], _, _, _, p, hp => by cases hp
  | (i, o) :: l, s, s', h, p, hp => by
    obtain ⟨s1, h1, h2⟩ := h
    rcases List.mem_cons.1 hp with rfl | hp
    · obtain ⟨r, t, hr, _, _, hf⟩ := evOne_sel.1 h1
      have F := evSel_facts hr
      dsimp only
      rw [hf]
      exact ⟨F.c0, F.c1⟩
    · exact runI_facts l s1 s' h2 p hp

theorem clash_z (a : Fp) : Fp.clash .z a = false := by cases a <;> rfl
theorem clash_z' (a : Fp) : a.clash .z = false := by cases a <;> rfl

theorem loose_ok {prs : List (Nat × Nat)} {fps : List Fp} {s s' : St} (hb : looseB prs ops = true) (hn : noClash fps prs = true) (hr : RunI C call fl me ops (fun i => (fps[i]?).getD .z) (enumF 0 ops.toList) s s') :
    Loose ops (fun i => (fps[i]?).getD .z) (Bef ops.toList) := by
  have mem : ∀ (i : Nat) x, ops[i]? = some x → (i, x) ∈ enumF 0 ops.toList := fun i x h => (mem_enumF _ _ _ _).2 ⟨Nat.zero_le _, by simpa using h⟩
  unfold looseB at hb
  simp only [List.all_eq_true, Bool.and_eq_true] at hb
  refine ⟨fun j o e ho he hbd => ?_, fun i j hij => ?_, fun i j x y hlt hx hy hnb => ?_⟩
  · have := (hb _ (mem j o ho)).1 e (by simpa using he)
    simp [hbd] at this
    exact this
  · obtain ⟨m, hm, hi⟩ := hij
    obtain ⟨o, h1, e, h2, h3, h4⟩ := masks_good ops.toList ops.toList [] [] rfl rfl (fun j m h => by simp at h) j m hm i hi
    exact ⟨o, by simpa using h1, e, h2, h3, h4⟩
  · have h1 := (hb _ (mem j y hy)).2 _ (mem i x hx)
    have h0 : (((masks ops.toList [])[j]?).getD 0).testBit i = false := by
      cases ht : (((masks ops.toList [])[j]?).getD 0).testBit i with
      | false => rfl
      | true =>
        exfalso
        cases hm : (masks ops.toList [])[j]? with
        | none => rw [hm] at ht; simp at ht
        | some m => rw [hm] at ht; exact hnb ⟨m, hm, by simpa using ht⟩
    simp only [hlt, decide_true, Bool.not_true, Bool.false_or, h0, Bool.and_eq_true, Bool.or_eq_true] at h1
    refine ⟨h1.1, ?_⟩
    obtain ⟨x0, x1⟩ := runI_facts _ _ _ hr _ (mem i x hx)
    obtain ⟨y0, y1⟩ := runI_facts _ _ _ hr _ (mem j y hy)
    dsimp only at x0 x1 y0 y1 ⊢
    rcases h1.2 with h2 | h2
    · simp only [harmless, Bool.or_eq_true, Bool.and_eq_true, beq_iff_eq] at h2
      rcases h2 with (h2 | h2) | ⟨h2, h3⟩
      · rw [x0 h2]; exact clash_z _
      · rw [y0 h2]; exact clash_z' _
      · rcases x1 h2 with e | e | ⟨b, e⟩ | ⟨t, e⟩ <;> rcases y1 h3 with f | f | ⟨b', f⟩ | ⟨u, f⟩ <;> rw [e, f] <;> rfl
    · simp only [List.any_eq_true, Bool.and_eq_true, beq_iff_eq] at h2
      obtain ⟨p, hp, h3, h4⟩ := h2
      obtain ⟨a, b, ha, hb2, hc⟩ := noClash_spec hn p hp
      rw [h3] at ha
      rw [h4] at hb2
      rw [ha, hb2]
      exact hc

/-- every drawn region of a code is loose -/
def codeOK (C : Cfg) (me : FuncId) : Code → Bool
  | .region id ops draw => !draw || looseB (C.pairs me id) ops
  | .seq a b => codeOK C me a && codeOK C me b
  | .cond _ a b => codeOK C me a && codeOK C me b
  | .block _ a => codeOK C me a
  | .loop a => codeOK C me a
  | _ => true

def Ex.to : Ex → Exit
  | .normal => .normal
  | .exit id => .exit id
  | .ret => .ret

theorem cleanT_len : ∀ (ts : List TV) (m : Nat), (cleanT ts m).length = ts.length
  | [], _ => rfl
  | _ :: ts, m => by simp [cleanT, cleanT_len ts]

theorem cleanT_get : ∀ (ts : List TV) (m i : Nat) (x : TV), (cleanT ts m)[i]? = some x → x = .junk ∨ (ts[i]? = some x ∧ ∀ t o, x ≠ .lp t o)
  | [], _, i, x, h => by simp [cleanT] at h
  | y :: ts, m, 0, x, h => by
    simp only [cleanT, List.getElem?_cons_zero, Option.some.injEq] at h
    cases hm : (m % 2 == 1) with
    | false => rw [hm, cond_false rfl] at h; exact .inl h.symm
    | true =>
      rw [hm, cond_true rfl] at h
      cases y <;> first | exact .inl h.symm | (subst h; exact .inr ⟨rfl, fun _ _ h => TV.noConfusion h⟩)
  | y :: ts, m, i + 1, x, h => by
    simp only [cleanT, List.getElem?_cons_succ] at h
    exact cleanT_get ts (m / 2) i x h

theorem FR.clean {n base : Nat} {L : Lay} {w : World} {ts : List TV} {rt : Array Value} (hF : FR n L w base ts rt) (m : Nat) : FR n L w base (cleanT ts m) rt := by
  refine ⟨by rw [cleanT_len, hF.len], fun i x hx => ?_, fun i t off hi => ?_⟩
  · rcases cleanT_get ts m i x hx with rfl | ⟨h, _⟩
    · exact trivial
    · exact hF.slot i x h
  · rcases cleanT_get ts m i _ hi with h | ⟨h, h2⟩
    · cases h
    · exact absurd rfl (h2 t off)

theorem cleanSt_hp (m : Option Nat) (st : St) : (cleanSt m st).hp = st.hp := by cases m <;> rfl
theorem FR.cleanSt {n base : Nat} {L : Lay} {w : World} {st : St} {rt : Array Value} (hF : FR n L w base st.tmps rt) (m : Option Nat) : FR n L w base (cleanSt m st).tmps rt := by
  cases m with
  | none => exact hF
  | some m => exact hF.clean m

section
variable {B base : Nat} {w0 : World} {ds : List Deferred}

theorem region_ok (hT : TysOK P C) (hcall : CallOK P C call) (hkeep : CallKeeps C call) (hm : P.follows .mixedOrders = true) (hBb : B ≤ base) {id : Nat} {draw : Bool} (hc : codeOK C me (.region id ops draw) = true) {st st' : St} {fps : List Fp} {a : Act} {w : World} {L : Lay} {Q : Exit → Act → World → Prop}
    (hI : Inv C.glob B w0 L w st.hp) (hF : FR st.hp.length L w base st.tmps a.tmps) (hd : a.defers = ds) (hbw : base ≤ w.heap.size) (h : runOps C call fl me ops.toList ops.toList st = some (st', fps)) (hcl : (!draw || noClash fps (C.pairs me id)) = true)
    (hQ : ∀ a' w', Post C B w0 base L w st.hp.length st'.hp st'.tmps ds a' w' → Q .normal a' w') : (Code.region id ops draw).wp P Q a w := by
  cases draw with
  | false =>
    refine wp_region ?_
    rw [List.range_eq_range', ← Array.length_toList]
    exact ops_ok hT hcall hBb ops.toList 0 st st' fps a w L (fun j => by simp) hI hF hd hbw h hQ
  | true =>
    refine wp_region_any hm ?_
    have hlb : looseB (C.pairs me id) ops = true := by simpa [codeOK] using hc
    have hn : noClash fps (C.pairs me id) = true := by simpa using hcl
    have hr := runI_of (φ := fun i => (fps[i]?).getD .z) ops.toList 0 st st' fps h fun j f hj => by rw [Nat.zero_add, hj]; rfl
    have hl := loose_ok hlb hn hr
    refine any_ok hT hcall hkeep hBb hl ops.size (enumF 0 ops.toList) _ st st' a w.drew L (enumF_sorted _ _) (fun i x => ?_) (by simp) (by simp [enumF_len]) (fun j o ho hk => ?_) hI.drew
      (hF.mono (Nat.le_refl _) (Ext.drew _ _ _) (KeepLoc.drew _ _ _) (Nat.le_refl _)) hd hbw hr fun a' w' hp => hQ a' w' (hp.trans (Nat.le_refl _) (Ext.drew _ _ _) (KeepLoc.drew _ _ _) (Nat.le_refl _))
    · rw [mem_enumF]
      simp only [Nat.zero_le, true_and, Nat.sub_zero, Array.getElem?_toList]
      refine ⟨fun h => ⟨h, ?_⟩, fun h => h.1⟩
      have := (Array.getElem?_eq_some_iff.1 h).1
      simp [this]
    · have := (Array.getElem?_eq_some_iff.1 ho).1
      simp [this] at hk

theorem run_ok (hT : TysOK P C) (hcall : CallOK P C call) (hkeep : CallKeeps C call) (hm : P.follows .mixedOrders = true) (hBb : B ≤ base) (k : Nat) : ∀ (c : Code), codeOK C me c = true → ∀ (st st' : St) (e : Ex) (a : Act) (w : World) (L : Lay) (Q : Exit → Act → World → Prop),
    Inv C.glob B w0 L w st.hp → FR st.hp.length L w base st.tmps a.tmps → a.defers = ds → base ≤ w.heap.size → run C call fl me k c st = some (e, st') →
    (∀ a' w', Post C B w0 base L w st.hp.length st'.hp st'.tmps ds a' w' → Q e.to a' w') → c.wp P Q a w
  | .skip, _, st, st', e, a, w, L, Q, hI, hF, hd, hbw, h, hQ => by
    simp only [run, Option.some.injEq, Prod.mk.injEq] at h
    obtain ⟨rfl, rfl⟩ := h
    exact wp_skip (hQ _ _ ⟨L, hI, Ext.refl _ _ _, KeepLoc.refl _ _ _, Nat.le_refl _, Nat.le_refl _, hF, hd⟩)
  | .exit id, _, st, st', e, a, w, L, Q, hI, hF, hd, hbw, h, hQ => by
    simp only [run, Option.some.injEq, Prod.mk.injEq] at h
    obtain ⟨rfl, rfl⟩ := h
    exact wp_exit (hQ _ _ ⟨L, hI, Ext.refl _ _ _, KeepLoc.refl _ _ _, Nat.le_refl _, Nat.le_refl _, hF, hd⟩)
  | .ret, _, st, st', e, a, w, L, Q, hI, hF, hd, hbw, h, hQ => by
    simp only [run, Option.some.injEq, Prod.mk.injEq] at h
    obtain ⟨rfl, rfl⟩ := h
    exact wp_ret (hQ _ _ ⟨L, hI, Ext.refl _ _ _, KeepLoc.refl _ _ _, Nat.le_refl _, Nat.le_refl _, hF, hd⟩)
  | .region id ops draw, hc, st, st', e, a, w, L, Q, hI, hF, hd, hbw, h, hQ => by
    simp only [run] at h
    split at h
    · rename_i st1 fps h1
      cases hcl : (!draw || noClash fps (C.pairs me id)) with
      | false => rw [hcl] at h; cases h
      | true =>
        rw [hcl, cond_true rfl] at h
        cases h
        exact region_ok hT hcall hkeep hm hBb hc hI hF hd hbw h1 hcl hQ
    · cases h
  | .seq x y, hc, st, st', e, a, w, L, Q, hI, hF, hd, hbw, h, hQ => by
    simp only [codeOK, Bool.and_eq_true] at hc
    refine wp_seq ?_
    simp only [run] at h
    split at h
    · rename_i st1 h1
      refine run_ok hT hcall hkeep hm hBb k x hc.1 st st1 .normal a w L _ hI hF hd hbw h1 fun a1 w1 hp => ?_
      obtain ⟨L1, p1, p2, p3, p4, p5, p6, p7⟩ := hp
      exact run_ok hT hcall hkeep hm hBb k y hc.2 st1 st' e a1 w1 L1 Q p1 p6 p7 (by omega) h fun a' w' hp => hQ a' w' (hp.trans p5 p2 p3 p4)
    · rename_i hne
      refine run_ok hT hcall hkeep hm hBb k x hc.1 st st' e a w L _ hI hF hd hbw h fun a1 w1 hp => ?_
      cases e with
      | normal => exact absurd h (hne st')
      | exit id => exact hQ a1 w1 hp
      | ret => exact hQ a1 w1 hp
  | .cond c x y, hc, st, st', e, a, w, L, Q, hI, hF, hd, hbw, h, hQ => by
    simp only [codeOK, Bool.and_eq_true] at hc
    simp only [run] at h
    split at h
    · rename_i t ht
      have hv : a.eval c = .bool t := by
        have := opv_ok (ds := a.defers) hI hF ht
        obtain ⟨rt, ds'⟩ := a
        cases hv : (({ tmps := rt, defers := ds' } : Act).eval c) <;> rw [hv] at this <;> cases this
        rfl
      refine wp_cond hv ?_
      cases t with
      | true => rw [cond_true rfl] at h; rw [if_pos rfl]; exact run_ok hT hcall hkeep hm hBb k x hc.1 st st' e a w L Q hI hF hd hbw h hQ
      | false => rw [cond_false rfl] at h; rw [if_neg (by simp)]; exact run_ok hT hcall hkeep hm hBb k y hc.2 st st' e a w L Q hI hF hd hbw h hQ
    · cases h
  | .block id x, hc, st, st', e, a, w, L, Q, hI, hF, hd, hbw, h, hQ => by
    simp only [codeOK] at hc
    refine wp_block ?_
    simp only [run] at h
    split at h
    · rename_i j st1 h1
      refine run_ok hT hcall hkeep hm hBb k x hc st st1 (.exit j) a w L _ hI hF hd hbw h1 fun a1 w1 hp => ?_
      show if j = id then _ else _
      cases hj : (j == id) with
      | true =>
        rw [hj, cond_true rfl] at h; cases h
        rw [if_pos (by simpa using hj)]
        exact hQ a1 w1 hp
      | false =>
        rw [hj, cond_false rfl] at h; cases h
        rw [if_neg (by simpa using hj)]
        exact hQ a1 w1 hp
    · rename_i hne
      refine run_ok hT hcall hkeep hm hBb k x hc st st' e a w L _ hI hF hd hbw h fun a1 w1 hp => ?_
      cases e with
      | normal => exact hQ a1 w1 hp
      | exit id => exact absurd h (hne _ st')
      | ret => exact hQ a1 w1 hp
  | .loop x, hc, st, st', e, a, w, L, Q, hI, hF, hd, hbw, h, hQ => by
    simp only [codeOK] at hc
    simp only [run] at h
    refine wp_loop_rounds k ?_
    split at h
    case h_2 => cases h
    rename_i e' st2 h2
    cases h
    replace h := h2
    clear h2
    replace hQ : ∀ a' w', Post C B w0 base L w st.hp.length st2.hp st2.tmps ds a' w' → Q e.to a' w' := fun a' w' hp => hQ a' w' (by
      obtain ⟨L', p1, p2, p3, p4, p5, p6, p7⟩ := hp
      exact ⟨L', by rw [cleanSt_hp]; exact p1, p2, p3, p4, by rw [cleanSt_hp]; exact p5, by rw [cleanSt_hp]; exact p6.cleanSt _, p7⟩)
    generalize C.after me (firstReg x) = m2 at *
    revert hQ h
    generalize st2 = st'
    intro h hQ
    generalize hcm : C.loop me (firstReg x) = m at h
    have key : ∀ (n : Nat) (st : St) (a : Act) (w : World) (L : Lay), Inv C.glob B w0 L w st.hp → FR st.hp.length L w base st.tmps a.tmps → a.defers = ds → base ≤ w.heap.size → evLoop (run C call fl me k x) (cleanSt m) n st = some (e, st') →
        (∀ a' w', Post C B w0 base L w st.hp.length st'.hp st'.tmps ds a' w' → Q e.to a' w') → Code.rounds P x Q n a w := by
      intro n
      induction n with
      | zero => intro st a w L _ _ _ _ h; cases h
      | succ n ih =>
        intro st a w L hI hF hd hbw h hQ
        rw [rounds_succ]
        simp only [evLoop] at h
        have hI' : Inv C.glob B w0 L w (cleanSt m st).hp := by rw [cleanSt_hp]; exact hI
        have hF' : FR (cleanSt m st).hp.length L w base (cleanSt m st).tmps a.tmps := by rw [cleanSt_hp]; exact hF.cleanSt m
        rw [← cleanSt_hp m st] at hQ
        split at h
        · rename_i st1 h1
          refine run_ok hT hcall hkeep hm hBb k x hc (cleanSt m st) st1 .normal a w L _ hI' hF' hd hbw h1 fun a1 w1 hp => ?_
          obtain ⟨L1, p1, p2, p3, p4, p5, p6, p7⟩ := hp
          exact ih st1 a1 w1 L1 p1 p6 p7 (by omega) h fun a' w' hp => hQ a' w' (hp.trans p5 p2 p3 p4)
        · rename_i hne
          refine run_ok hT hcall hkeep hm hBb k x hc (cleanSt m st) st' e a w L _ hI' hF' hd hbw h fun a1 w1 hp => ?_
          cases e with
          | normal => exact absurd h (hne st')
          | exit id => exact hQ a1 w1 hp
          | ret => exact hQ a1 w1 hp
    exact key k st a w L hI hF hd hbw h hQ
  | .rangeFunc .., _, st, st', e, a, w, L, Q, _, _, _, _, h, _ => by simp [run] at h
  | .scope .., _, st, st', e, a, w, L, Q, _, _, _, _, h, _ => by simp [run] at h
  | .label .., _, st, st', e, a, w, L, Q, _, _, _, _, h, _ => by simp [run] at h
  | .goto .., _, st, st', e, a, w, L, Q, _, _, _, _, h, _ => by simp [run] at h
  | .refuse .., _, st, st', e, a, w, L, Q, _, _, _, _, h, _ => by simp [run] at h
end
end
section
variable {P:Program} {C:Cfg} {call:CallF} {fl:Nat} {me:FuncId}
def HPre (fl:Nat) (hp hp':List Blk):Prop:=fl≤hp'.length∧∀ b,b < fl→hp'[b]?=hp[b]?
theorem HPre.refl {fl:Nat} {hp:List Blk} (h:fl≤hp.length):HPre fl hp hp:=⟨h,fun _ _=>rfl⟩
theorem HPre.trans {fl:Nat} {a b c:List Blk} (h:HPre fl a b) (k:HPre fl b c):HPre fl a c:=⟨k.1,fun i hi=>(k.2 i hi).trans (h.2 i hi)⟩
theorem HPre.push {fl:Nat} {hp:List Blk} (h:fl≤hp.length) (x:List Blk):HPre fl hp (hp++x) :=
 ⟨by simp;omega,fun b hb=>by rw [List.getElem?_append_left (by omega)]⟩
theorem HPre.set {fl:Nat} {hp:List Blk} (h:fl≤hp.length) {b:Nat} (hb:fl≤b) (x:Blk):HPre fl hp (setAt hp b x):=by
 rw [setAt_eq]
 exact ⟨by simpa using h,fun i hi=>List.getElem?_set_ne (by omega)⟩
theorem HPre.setPush {fl:Nat} {hp:List Blk} (h:fl≤hp.length) {b:Nat} (hb:fl≤b) (x:Blk) (y:List Blk):HPre fl hp (setAt hp b x++y) :=
 (HPre.set h hb x).trans (HPre.push (by rw [setAt_eq];simpa using h) y)
def FlOK (call:CallF) (fl:Nat):Prop:=∀ f args hp v hp',call f args hp=some (v,hp')→fl≤hp.length→HPre fl hp hp'
theorem newBlk_pre {st:St} {cs:List AV} {mk:Nat→AV} {r:Res} (h:newBlk st cs mk=some r) (hfl:fl≤st.hp.length):HPre fl st.hp r.hp:=by
 simp only [newBlk,Option.some.injEq] at h
 subst h
 exact .push hfl _
theorem appendE_pre {arrM:Bool} {st:St} {t t2:TypeId} {s x:AV} {r:Res} (h:appendE C fl arrM st t t2 s x=some r) (hfl:fl≤st.hp.length):HPre fl st.hp r.hp:=by
 unfold appendE at h
 simp only [cond_eq_ite] at h
 repeat' (first | (cases h;done) | split at h)
 all_goals (cases h;first
  | exact HPre.refl hfl
  | exact HPre.push hfl _
  | (refine HPre.set hfl ?_ _;simp only [Bool.not_eq_true',Bool.not_eq_false',decide_eq_true_eq,decide_eq_false_iff_not,Bool.and_eq_true,Classical.not_not] at *;omega)
  | (refine HPre.setPush hfl ?_ _ _;simp only [Bool.not_eq_true',Bool.not_eq_false',decide_eq_true_eq,decide_eq_false_iff_not,Bool.and_eq_true,Classical.not_not] at *;omega))
theorem evOp_floor {o:Oper} {st:St} {r:Res} (hcall:FlOK call fl) (hkeep:CallKeeps C call) (h:evOp C call fl me o st=some r) (hfl:fl≤st.hp.length):HPre fl st.hp r.hp:=by
 have hF:=evOp_facts h
 have hH:HeapOut r.fp st.hp r.hp:=by obtain ⟨_,_,_,hH,_⟩:=evOp_local hkeep h;exact hH
 have same:r.fp = .z∨r.fp = .hr∨(∃ b,r.fp = .hb b)∨(∃ t,r.fp = .lr t)→HPre fl st.hp r.hp:=fun hf=>by
  have:r.hp=st.hp:=by
   rcases hf with e | e | ⟨b,e⟩ | ⟨t,e⟩ <;> (rw [e] at hH;exact hH)
  rw [this]
  exact .refl hfl
 by_cases h0:cls o=0
 ·exact same (.inl (hF.c0 h0))
 by_cases h1:cls o=1
 ·exact same (hF.c1 h1)
 unfold evOp at h
 unfold cls at h0 h1
 cases hop:o.op <;> rw [hop] at h h0 h1 <;> dsimp only at h h0 h1 <;> first
  | (exact absurd rfl h0)
  | (exact absurd rfl h1)
  | skip
 case alloc e =>
  simp only [cond_eq_ite] at h
  repeat' (first | (cases h;done) | split at h)
  ·cases h;exact .refl hfl
  ·exact newBlk_pre h hfl
 case box e x =>
  simp only [cond_eq_ite] at h
  repeat' (first | (cases h;done) | split at h)
  ·cases h;exact .refl hfl
  ·exact newBlk_pre h hfl
 case store t a x =>
  split at h
  ·unfold storeAt at h
   simp only [cond_eq_ite] at h
   repeat' (first | (cases h;done) | split at h)
   all_goals (cases h;first
    | exact HPre.refl hfl
    | (refine HPre.set hfl ?_ _;clear same hF hH hcall;simp only [decide_eq_true_eq,Bool.and_eq_true] at *;omega))
  ·cases h
 case convert s d x =>
  split at h
  ·unfold convE at h
   split at h
   ·obtain ⟨a,_,rfl⟩:=ofO_eq h;exact .refl hfl
   ·obtain ⟨a,_,rfl⟩:=ofO_eq h;exact .refl hfl
   ·simp only [cond_eq_ite] at h
    split at h
    ·split at h
     ·exact newBlk_pre h hfl
     ·obtain ⟨a,_,rfl⟩:=ofO_eq h;exact .refl hfl
    ·cases h
   ·simp only [cond_eq_ite] at h
    repeat' (first | (cases h;done) | split at h)
    all_goals (simp only [Option.map_eq_some_iff] at h;obtain ⟨_,_,rfl⟩:=h;exact .refl hfl)
   ·cases h
  ·cases h
 case buildSlice t len ps =>
  simp only [cond_eq_ite] at h
  repeat' (first | (cases h;done) | split at h)
  ·exact newBlk_pre h hfl
  ·obtain ⟨a,_,rfl⟩:=ofO_eq h;exact .refl hfl
 case makeSlice t l c =>
  simp only [cond_eq_ite] at h
  repeat' (first | (cases h;done) | split at h)
  exact newBlk_pre h hfl
 case range t x =>
  split at h
  ·unfold rangeE at h
   split at h
   ·cases h;exact .push hfl _
   ·cases h
  ·cases h
 case next x s =>
  split at h
  ·unfold nextE at h
   simp only [cond_eq_ite] at h
   repeat' (first | (cases h;done) | split at h)
   all_goals (cases h;first
    | exact HPre.refl hfl
    | (refine HPre.set hfl ?_ _;clear same hF hH hcall;simp only [Bool.not_eq_true',Bool.not_eq_false',decide_eq_true_eq,decide_eq_false_iff_not,Bool.and_eq_true,Classical.not_not] at *;omega))
  ·cases h
 case makeMap t hint =>
  cases hint with
  | some _=>cases h
  | none =>
   dsimp only at h
   unfold makeMapE at h
   split at h
   ·cases h;exact .push hfl _
   ·cases h
 case mapUpdate t m k x =>
  split at h
  ·unfold mapUpdateE at h
   simp only [cond_eq_ite] at h
   repeat' (first | (cases h;done) | split at h)
   all_goals (cases h;refine HPre.set hfl ?_ _;clear same hF hH hcall;simp only [decide_eq_true_eq,Bool.and_eq_true] at *;omega)
  ·cases h
 case lookup t m k q =>
  split at h
  ·unfold lookupE at h
   repeat' (first | (cases h;done) | split at h)
   ·cases h;exact .refl hfl
   ·simp only [Option.map_eq_some_iff] at h;obtain ⟨_,_,rfl⟩:=h;exact .refl hfl
  ·cases h
 case call c =>
  split at h
  ·cases h
  split at h
  ·unfold builtinE at h
   split at h
   ·obtain ⟨a,_,rfl⟩:=ofO_eq h;exact .refl hfl
   ·obtain ⟨a,_,rfl⟩:=ofO_eq h;exact .refl hfl
   ·exact appendE_pre h hfl
   ·unfold copyE at h
    simp only [cond_eq_ite] at h
    repeat' (first | (cases h;done) | split at h)
    cases h
    (refine HPre.set hfl ?_ _;clear same hF hH hcall;simp only [decide_eq_true_eq,Bool.and_eq_true] at *;omega)
   ·unfold clearE at h
    simp only [cond_eq_ite] at h
    repeat' (first | (cases h;done) | split at h)
    ·cases h;exact .refl hfl
    ·cases h;exact .refl hfl
    ·cases h
     (refine HPre.set hfl ?_ _;clear same hF hH hcall;simp only [decide_eq_true_eq,Bool.and_eq_true] at *;omega)
   ·obtain ⟨a,_,rfl⟩:=ofO_eq h;exact .refl hfl
   ·obtain ⟨a,_,rfl⟩:=ofO_eq h;exact .refl hfl
   ·cases h
  ·split at h
   ·unfold callE at h
    split at h
    ·rename_i v hp hc
     cases h
     exact hcall _ _ _ _ _ hc hfl
    ·cases h
   ·cases h
  ·cases h
 all_goals (cases h)
theorem evOne_floor {ops:List Oper} {o:Oper} {st st':St} {f:Fp} (hcall:FlOK call fl) (hkeep:CallKeeps C call) (h:evOne C call fl me ops o st=some (st',f)) (hfl:fl≤st.hp.length):HPre fl st.hp st'.hp:=by
 unfold evOne at h
 split at h
 ·split at h
  ·rename_i r hr
   split at h
   ·cases h;exact evOp_floor hcall hkeep hr hfl
   ·cases h
  ·cases h
 ·split at h
  ·cases h;exact .refl hfl
  ·cases h
 ·cases h
theorem runOps_floor {ops:List Oper} (hcall:FlOK call fl) (hkeep:CallKeeps C call):∀ (l:List Oper) (st st':St) (fps:List Fp),runOps C call fl me ops l st=some (st',fps)→fl≤st.hp.length→HPre fl st.hp st'.hp
 | [],st,st',fps,h,hfl=>by
  simp only [runOps,Option.some.injEq,Prod.mk.injEq] at h
  rw [← h.1];exact .refl hfl
 | o::l,st,st',fps,h,hfl=>by
  simp only [runOps] at h
  split at h
  ·rename_i st1 f h1
   split at h
   ·rename_i st2 fs h2
    cases h
    have p1:=evOne_floor hcall hkeep h1 hfl
    exact p1.trans (runOps_floor hcall hkeep l st1 st' fs h2 p1.1)
   ·cases h
  ·cases h
theorem run_floor (hcall:FlOK call fl) (hkeep:CallKeeps C call) (k:Nat):∀ (c:Code) (st st':St) (e:Ex),run C call fl me k c st=some (e,st')→fl≤st.hp.length→HPre fl st.hp st'.hp
 | .skip,st,st',e,h,hfl=>by simp only [run,Option.some.injEq,Prod.mk.injEq] at h;rw [← h.2];exact .refl hfl
 | .exit id,st,st',e,h,hfl=>by simp only [run,Option.some.injEq,Prod.mk.injEq] at h;rw [← h.2];exact .refl hfl
 | .ret,st,st',e,h,hfl=>by simp only [run,Option.some.injEq,Prod.mk.injEq] at h;rw [← h.2];exact .refl hfl
 | .region id ops draw,st,st',e,h,hfl=>by
  simp only [run,cond_eq_ite] at h
  split at h
  ·rename_i st1 fps h1
   split at h
   ·cases h;exact runOps_floor hcall hkeep _ _ _ _ h1 hfl
   ·cases h
  ·cases h
 | .seq x y,st,st',e,h,hfl=>by
  simp only [run] at h
  split at h
  ·rename_i st1 h1
   have p1:=run_floor hcall hkeep k x st st1 .normal h1 hfl
   exact p1.trans (run_floor hcall hkeep k y st1 st' e h p1.1)
  ·exact run_floor hcall hkeep k x st st' e h hfl
 | .cond c x y,st,st',e,h,hfl=>by
  simp only [run] at h
  split at h
  ·rename_i t _
   cases t with
   | true=>exact run_floor hcall hkeep k x st st' e h hfl
   | false=>exact run_floor hcall hkeep k y st st' e h hfl
  ·cases h
 | .block id x,st,st',e,h,hfl=>by
  simp only [run,cond_eq_ite] at h
  split at h
  ·rename_i j st1 h1
   have p1:=run_floor hcall hkeep k x st st1 (.exit j) h1 hfl
   split at h
   ·cases h;exact p1
   ·cases h;exact p1
  ·exact run_floor hcall hkeep k x st st' e h hfl
 | .loop x,st,st',e,h,hfl=>by
  simp only [run] at h
  split at h
  case h_2=>cases h
  rename_i e' st2 h2
  cases h
  rw [cleanSt_hp]
  replace h:=h2
  clear h2
  revert h
  generalize st2=st'
  intro h
  generalize C.loop me (firstReg x)=m at h
  have key:∀ (n:Nat) (st:St),evLoop (run C call fl me k x) (cleanSt m) n st=some (e,st')→fl≤st.hp.length→HPre fl st.hp st'.hp:=by
   intro n
   induction n with
   | zero=>intro st h _;cases h
   | succ n ih =>
    intro st h hfl
    simp only [evLoop] at h
    rw [← cleanSt_hp m st] at hfl ⊢
    split at h
    ·rename_i st1 h1
     have p1:=run_floor hcall hkeep k x _ st1 .normal h1 hfl
     exact p1.trans (ih st1 h p1.1)
    ·exact run_floor hcall hkeep k x _ st' e h hfl
  exact key k st h hfl
 | .rangeFunc ..,st,st',e,h,_=>by simp [run] at h
 | .scope ..,st,st',e,h,_=>by simp [run] at h
 | .label ..,st,st',e,h,_=>by simp [run] at h
 | .goto ..,st,st',e,h,_=>by simp [run] at h
 | .refuse ..,st,st',e,h,_=>by simp [run] at h
theorem HPre.weak {fl n:Nat} {a b:List Blk} (h:HPre n a b) (hn:fl≤n):HPre fl a b:=⟨Nat.le_trans hn h.1,fun i hi=>h.2 i (Nat.lt_of_lt_of_le hi hn)⟩
theorem HPre.pre {a b:List Blk} (h:HPre a.length a b):∃ x,b=a++x:=by
 refine ⟨b.drop a.length, ?_⟩
 have:b.take a.length=a:=by
  apply List.ext_getElem?
  intro i
  by_cases hi:i < a.length
  ·rw [List.getElem?_take_of_lt hi];exact h.2 i hi
  ·rw [List.getElem?_eq_none (by have:=h.1;simp;omega),List.getElem?_eq_none (by omega)]
 conv=>lhs;rw [← List.take_append_drop a.length b]
 rw [this]
theorem insE_pre {f:FuncId} {args:List AV} {hp hp':List Blk} {v:AV} (h:insE C fl f args hp=some (v,hp')) (hfl:fl≤hp.length):HPre fl hp hp':=by
 unfold insE at h
 simp only [cond_eq_ite] at h
 repeat' (first | (cases h;done) | split at h)
 all_goals (cases h;first
  | exact HPre.push hfl _
  | (refine HPre.setPush hfl ?_ _ _;simp only [Bool.and_eq_true,decide_eq_true_eq] at *;omega))
theorem insE_keep {f:FuncId} {args:List AV} {hp:List Blk} {r:AV × List Blk} (h:insE C fl f args hp=some r):C.kind f = .keep:=by
 unfold insE at h
 split at h
 ·assumption
 ·cases h
theorem insE_ins {f:FuncId} {args:List AV} {hp:List Blk} {r:AV × List Blk} (h:insE C fl f args hp=some r):∃ q,C.ins f=some q:=by
 unfold insE at h
 split at h
 ·rename_i hi;exact ⟨_,hi⟩
 ·cases h
theorem evCall_both:∀ (k:Nat),(∀ fl,FlOK (evCall C k fl) fl)∧∀ fl,CallKeeps C (evCall C k fl)
 | 0=>⟨fun fl f args hp v hp' h _=>(by cases h),fun fl f args hp v hp' h _=>(by cases h)⟩
 | k + 1=>by
  obtain ⟨ih1,ih2⟩:=evCall_both k
  refine ⟨fun fl f args hp v hp' h hfl => ?_,fun fl f args hp v hp' h hkp => ?_⟩
  ·unfold evCall at h
   split at h
   ·cases h;exact .push hfl _
   split at h
   ·simp only [Option.map_eq_some_iff] at h
    obtain ⟨_,_,h⟩:=h
    cases h
    exact .refl hfl
   ·split at h
    ·exact insE_pre h hfl
    ·rename_i fi hfi
     dsimp only at h
     split at h
     ·cases h
     ·rename_i e st' _ hr
      split at h
      ·cases h
      ·rename_i rs hrs
       split at h
       ·split at h
        ·cases h;exact .refl hfl
        ·cases h
       ·rename_i hk
        rw [hk] at hr
        have p:=run_floor (ih1 fl) (ih2 fl) k fi.body _ _ _ hr hfl
        simp only [cond_eq_ite] at h
        split at h
        ·cases h
        ·split at h
         ·cases h
          have hlt:∀ b,b < fl→(st'.hp.take hp.length)[b]?=st'.hp[b]?:=fun b hb=>by rw [List.getElem?_take_of_lt (by omega)]
          exact ⟨by have:=p.1;simp;omega,fun b hb=>(hlt b hb).trans (p.2 b hb)⟩
         ·cases h
       ·rename_i hk
        rw [hk] at hr
        cases h
        exact run_floor (ih1 fl) (ih2 fl) k fi.body _ _ _ hr hfl
       ·rename_i hk
        rw [hk] at hr
        cases h
        exact (run_floor (ih1 _) (ih2 _) k fi.body _ _ _ hr (Nat.le_refl _)).weak hfl
     ·cases h
  ·unfold evCall at h
   split at h
   ·cases h;exact ⟨_,rfl⟩
   split at h
   ·simp only [Option.map_eq_some_iff] at h
    obtain ⟨_,_,h⟩:=h
    cases h
    exact ⟨[],by simp⟩
   ·rename_i he
    split at h
    ·have hk:=insE_keep h
     unfold keepsB at hkp
     rw [he,hk] at hkp
     cases hkp
    ·rename_i fi hfi
     dsimp only at h
     split at h
     ·cases h
     ·rename_i e st' _ hr
      split at h
      ·cases h
      ·rename_i rs hrs
       split at h
       ·split at h
        ·cases h;exact ⟨[],by simp⟩
        ·cases h
       ·rename_i hk
        unfold keepsB at hkp
        rw [he,hk] at hkp
        cases hkp
       ·rename_i hk
        unfold keepsB at hkp
        rw [he,hk] at hkp
        cases hkp
       ·rename_i hk
        rw [hk] at hr
        cases h
        exact (run_floor (ih1 _) (ih2 _) k fi.body _ _ _ hr (Nat.le_refl _)).pre
     ·cases h
theorem evCall_floor (k fl:Nat):FlOK (evCall C k fl) fl:=(evCall_both k).1 fl
theorem evCall_keeps (k fl:Nat):CallKeeps C (evCall C k fl):=(evCall_both k).2 fl
end
section
variable {P:Program} {C:Cfg}
def sealL (n:Nat) (L:Lay):Lay where
 loc b:=if b < n then L.loc b else none
 ext:=L.ext
 fam g:=if g < n then L.fam g else none
 who r o:=match L.who r o with
  | .blk b=>if b < n then .blk b else .imm
  | .spare g=>if g < n then .spare g else .none
  | x=>x
theorem sealL_imm {n:Nat} {L:Lay} {r o:Nat} (h:L.who r o = .imm):(sealL n L).who r o = .imm:=by simp only [sealL,h]
theorem sealL_loc {n:Nat} {L:Lay} {r o t:Nat} (h:L.who r o = .loc t):(sealL n L).who r o = .loc t:=by simp only [sealL,h]
theorem sealL_blk {n:Nat} {L:Lay} {r o b:Nat} (h:L.who r o = .blk b) (hb:b < n):(sealL n L).who r o = .blk b:=by simp only [sealL,h,if_pos hb]
theorem sealL_gone {n:Nat} {L:Lay} {r o b:Nat} (h:L.who r o = .blk b) (hb:¬ b < n):(sealL n L).who r o = .imm:=by simp only [sealL,h,if_neg hb]
theorem sealL_at {n:Nat} {L:Lay} {b:Nat} (hb:b < n):(sealL n L).loc b=L.loc b:=by simp only [sealL,if_pos hb]
theorem sealL_fam {n:Nat} {L:Lay} {b:Nat} (hb:b < n):(sealL n L).fam b=L.fam b:=by simp only [sealL,if_pos hb]
theorem sealL_ext (n:Nat) (L:Lay) (w:World):Ext n L w (sealL n L) w :=
 ⟨fun r o h=>⟨sealL_imm h,rfl⟩,fun b p hb hp=>⟨by rw [← sealL_at hb];exact hp,fun r o h=>sealL_blk h hb,rfl⟩,fun g F hg hF=>⟨F,by rw [← sealL_fam hg];exact hF, .inl rfl⟩,Nat.le_refl _,fun _ _ _=>rfl,fun _ _ _ h=>by simp only [sealL,h]⟩
theorem sealL_keep (s n:Nat) (L:Lay) (w:World):KeepLoc s L w (sealL n L) w:=fun _ _ _ _ h=>⟨sealL_loc h,rfl,rfl⟩
theorem sealL_blk' {n:Nat} {L:Lay} {r o b:Nat} (h:(sealL n L).who r o = .blk b):L.who r o = .blk b∧b < n:=by
 simp only [sealL] at h
 split at h
 ·rename_i b' h1
  split at h
  ·rename_i hb;cases h;exact ⟨h1,hb⟩
  ·cases h
 ·split at h <;> cases h
 ·rename_i h1 _;exact absurd h (h1 b)
theorem sealL_spare' {n:Nat} {L:Lay} {r o b:Nat} (h:(sealL n L).who r o = .spare b):L.who r o = .spare b∧b < n:=by
 simp only [sealL] at h
 split at h
 ·split at h <;> cases h
 ·rename_i b' h1
  split at h
  ·rename_i hb;cases h;exact ⟨h1,hb⟩
  ·cases h
 ·rename_i _ h1;exact absurd h (h1 b)
theorem seal_inv {glob:Nat→Option AV} {B:Nat} {w0 w:World} {L:Lay} {hpF hp:List Blk} (hI:Inv glob B w0 L w hpF) (hpre:∀ b,b < hp.length→hpF[b]?=hp[b]?)
  (hclo:∀ (b:Nat) cs,hp[b]?=some (.cells cs)→∀ c ∈ cs,∀ rv,VR hpF.length L w c rv→VR hp.length L w c rv)
  (hcloO:∀ (b:Nat) es,hp[b]?=some (.obj (.mp es))→∀ (i:Nat) k v,es[i]?=some (k,v)→∀ rv,VR hpF.length L w v rv→VR hp.length L w v rv):Inv glob B w0 (sealL hp.length L) w hp:=by
 have lt:∀ {b:Nat} {x},hp[b]?=some x→b < hp.length:=fun h=>(List.getElem?_eq_some_iff.1 h).1
 refine ⟨hI.below,hI.size,fun b cs hb => ?_,fun r o b h => ?_,fun g m hg => ?_,fun r o g h => ?_,fun r o h => ?_,fun b h => ?_,fun b h => ?_,fun g v hg => ?_,⟨fun b o hb => ?_,fun b c o q r hb hc h1 h2 => ?_⟩, ?_⟩
 ·obtain ⟨p,h1,h2,h3⟩:=hI.blks b cs ((hpre b (lt hb)).trans hb)
  refine ⟨p,by rw [sealL_at (lt hb)];exact h1,h2,fun j c hj => ?_⟩
  obtain ⟨k1,k2,rv,k3,k4⟩:=h3 j c hj
  exact ⟨sealL_blk k1 (lt hb),k2,rv,k3,(hclo b cs hb c (List.mem_of_getElem? hj) rv k4).mono (Nat.le_refl _) (sealL_ext _ _ _)⟩
 ·exact hI.own r o b (sealL_blk' h).1
 ·obtain ⟨F,h1,h2,h3,h4,h5⟩:=hI.fams g m ((hpre g (lt hg)).trans hg)
  exact ⟨F,by rw [sealL_fam (lt hg)];exact h1,h2,h3,h4,fun j h6 h7=>by simp only [sealL,h5 j h6 h7,if_pos (lt hg)]⟩
 ·exact hI.spare r o g (sealL_spare' h).1
 ·simp only [sealL,hI.fresh r o h]
 ·simp only [sealL,if_neg (Nat.not_lt.2 h)]
 ·simp only [sealL,if_neg (Nat.not_lt.2 h)]
 ·exact (hI.globs g v hg).mono (Nat.le_refl _) ((sealL_ext hp.length L w).less (Nat.zero_le _))
 ·obtain ⟨r,k1,k2,x,k3,k4⟩:=hI.objs.at_ b o ((hpre b (lt hb)).trans hb)
  refine ⟨r,by rw [sealL_at (lt hb)];exact k1,k2,x,k3, ?_⟩
  cases o with
  | sit s pos=>exact k4
  | mp es =>
   obtain ⟨ra,c,g1,g2,g3⟩:=k4
   refine ⟨ra,c,g1,g2,fun i k v hi => ?_⟩
   obtain ⟨e,kb,q1,q2,q3,q4,q5⟩:=g3 i k v hi
   exact ⟨e,kb,q1,q2,q3,q4,(hcloO b es hb i k v hi _ q5).mono (Nat.le_refl _) (sealL_ext _ _ _)⟩
 ·rw [sealL_at (lt hb)] at h1
  rw [sealL_at (lt hc)] at h2
  exact hI.objs.apart b c o q r ((hpre b (lt hb)).trans hb) ((hpre c (lt hc)).trans hc) h1 h2
 ·exact hI.kept
theorem mapO_back {α β:Type} {f:α→Option β} {l:List α} {r:List β} (h:mapO f l=some r) (i:Nat) (y:β) (hy:r[i]?=some y):∃ x,l[i]?=some x∧f x=some y:=by
 obtain ⟨hl,hi⟩:=mapO_eq f l r h
 have hlt:i < l.length:=by rw [← hl];exact (List.getElem?_eq_some_iff.1 hy).1
 obtain ⟨y',h1,h2⟩:=hi i _ (List.getElem?_eq_getElem hlt)
 rw [hy] at h2;cases h2
 exact ⟨_,List.getElem?_eq_getElem hlt,h1⟩
theorem shutV_cells {hp:List Blk} {n:Nat} {d:Nat} {x y:AV} (h:shutV hp n d x=some y) :
  y.cells.length=x.cells.length∧(x.one=true→y.one=true)∧∀ (j:Nat) c',y.cells[j]?=some c'→∃ c d',d'≤d∧x.cells[j]?=some c∧shutV hp n d' c=some c':=by
 have one:x.cells=[x]→y.cells=[y]→y.cells.length=x.cells.length∧∀ (j:Nat) c',y.cells[j]?=some c'→∃ c d',d'≤d∧x.cells[j]?=some c∧shutV hp n d' c=some c':=fun h1 h2=>by
  rw [h1,h2]
  refine ⟨rfl,fun j c' hj => ?_⟩
  cases j with
  | zero=>simp at hj;subst hj;exact ⟨x,d,Nat.le_refl _,rfl,h⟩
  | succ j=>simp at hj
 cases d with
 | zero=>cases h
 | succ d =>
  have h':=h
  cases x with
  | agg cs =>
   simp only [shutV,Option.map_eq_some_iff] at h
   obtain ⟨ys,hys,rfl⟩:=h
   refine ⟨(mapO_eq _ _ _ hys).1,fun h=>(by cases h),fun j c' hj => ?_⟩
   obtain ⟨c,h1,h2⟩:=mapO_back hys j c' hj
   exact ⟨c,d,by omega,h1,h2⟩
  | tup cs =>
   simp only [shutV,Option.map_eq_some_iff] at h
   obtain ⟨ys,hys,rfl⟩:=h
   obtain ⟨o1,o2⟩:=one rfl rfl
   exact ⟨o1,fun h=>(by cases h),o2⟩
  | ptr b off =>
   simp only [shutV,cond_eq_ite] at h
   split at h
   ·cases h;obtain ⟨o1,o2⟩:=one rfl rfl;exact ⟨o1,fun _=>rfl,o2⟩
   ·cases h
  | mpr b =>
   simp only [shutV,cond_eq_ite] at h
   split at h
   ·cases h;obtain ⟨o1,o2⟩:=one rfl rfl;exact ⟨o1,fun _=>rfl,o2⟩
   ·cases h
  | rop v =>
   simp only [shutV,Option.map_eq_some_iff] at h
   obtain ⟨_,_,rfl⟩:=h
   obtain ⟨o1,o2⟩:=one rfl rfl;exact ⟨o1,fun _=>rfl,o2⟩
  | lit sz own xs =>
   simp only [shutV] at h
   split at h
   ·cases h;obtain ⟨o1,o2⟩:=one rfl rfl;exact ⟨o1,fun _=>rfl,o2⟩
   ·cases h
  | arr sz b off len =>
   simp only [shutV,cond_eq_ite] at h
   split at h
   ·cases h;obtain ⟨o1,o2⟩:=one rfl rfl;exact ⟨o1,fun _=>rfl,o2⟩
   ·split at h
    ·simp only [Option.map_eq_some_iff] at h
     obtain ⟨_,_,rfl⟩:=h
     obtain ⟨o1,o2⟩:=one rfl rfl;exact ⟨o1,fun _=>rfl,o2⟩
    ·cases h
  | fn f a b =>
   simp only [shutV] at h
   split at h
   ·cases h;obtain ⟨o1,o2⟩:=one rfl rfl;exact ⟨o1,fun _=>rfl,o2⟩
   ·cases h
  | iface t v =>
   simp only [shutV,Option.map_eq_some_iff] at h
   obtain ⟨_,_,rfl⟩:=h
   obtain ⟨o1,o2⟩:=one rfl rfl;exact ⟨o1,fun _=>rfl,o2⟩
  | _ =>
   simp only [shutV,Option.some.injEq] at h
   subst h
   obtain ⟨o1,o2⟩:=one rfl rfl;exact ⟨o1,fun h=>h,o2⟩
theorem flat_shut {hp:List Blk} {n d:Nat}:∀ {xs ys:List AV},mapO (shutV hp n d) xs=some ys →
  ys.length=xs.length∧(∀ y ∈ ys,∃ x ∈ xs,y.cells.length=x.cells.length)∧(flat ys).length=(flat xs).length ∧
  ∀ (j:Nat) c',(flat ys)[j]?=some c'→∃ c d',d'≤d∧(flat xs)[j]?=some c∧shutV hp n d' c=some c'
 | [],ys,h=>by
  simp only [mapO,Option.some.injEq] at h
  subst h
  exact ⟨rfl,fun _ h=>(by cases h),rfl,fun j c' h=>by simp [flat] at h⟩
 | x::xs,ys,h=>by
  simp only [mapO] at h
  split at h
  ·rename_i y hy
   split at h
   ·rename_i ys' hys
    cases h
    obtain ⟨a1,_,a2⟩:=shutV_cells hy
    obtain ⟨b1,b2,b3,b4⟩:=flat_shut hys
    refine ⟨by simp [b1],fun z hz => ?_,by simp [flat,a1,b3],fun j c' hj => ?_⟩
    ·rcases List.mem_cons.1 hz with rfl | hz
     ·exact ⟨x,List.mem_cons_self ..,a1⟩
     ·obtain ⟨u,hu,he⟩:=b2 z hz
      exact ⟨u,List.mem_cons_of_mem _ hu,he⟩
    ·simp only [flat] at hj ⊢
     by_cases hlt:j < y.cells.length
     ·rw [List.getElem?_append_left hlt] at hj
      rw [List.getElem?_append_left (by omega)]
      exact a2 j c' hj
     ·rw [List.getElem?_append_right (by omega)] at hj
      rw [List.getElem?_append_right (by omega),← a1]
      exact b4 _ c' hj
   ·cases h
  ·cases h
theorem chunk_zero:∀ (n:Nat) (cs xs:List AV),chunk 0 n cs=some xs→xs.length=n∧(∀ x ∈ xs,x.cells.length=0)∧flat xs=[]
 | 0,cs,xs,h=>by simp [chunk] at h;subst h;simp [flat]
 | n + 1,cs,xs,h=>by
  simp [chunk] at h
  split at h
  ·rename_i ys hys
   cases h
   obtain ⟨a,b,c⟩:=chunk_zero n _ _ hys
   exact ⟨by simp [a],fun x hx=>by rcases List.mem_cons.1 hx with rfl | hx;rfl;exact b x hx,by simp [flat,c,AV.cells]⟩
  ·cases h
theorem shut_ok {glob:Nat→Option AV} {B:Nat} {w0 w:World} {L:Lay} {hp:List Blk} {n:Nat} (hI:Inv glob B w0 L w hp):∀ (d:Nat) (x y:AV),shutV hp n d x=some y→∀ v,VR hp.length L w x v→VR n (sealL n L) w y v:=by
 intro d
 induction d using Nat.strongRecOn with
 | _ d ih =>
 intro x y h v hv
 cases d with
 | zero=>cases h
 | succ d =>
 have ih':∀ d',d'≤d→∀ (x y:AV),shutV hp n d' x=some y→∀ v,VR hp.length L w x v→VR n (sealL n L) w y v:=fun d' hd=>ih d' (by omega)
 cases hv with
 | bool b=>simp only [shutV,Option.some.injEq] at h;subst h;exact .bool b
 | int k i=>simp only [shutV,Option.some.injEq] at h;subst h;exact .int k i
 | str l s hs=>simp only [shutV,Option.some.injEq] at h;subst h;exact .str l s hs
 | nilP=>simp only [shutV,Option.some.injEq] at h;subst h;exact .nilP
 | nilS=>simp only [shutV,Option.some.injEq] at h;subst h;exact .nilS
 | nilF=>simp only [shutV,Option.some.injEq] at h;subst h;exact .nilF
 | nilI=>simp only [shutV,Option.some.injEq] at h;subst h;exact .nilI
 | nilM=>simp only [shutV,Option.some.injEq] at h;subst h;exact .nilM
 | ptr b off a hb ha =>
  simp only [shutV,cond_eq_ite] at h
  split at h
  ·rename_i hbn
   cases h
   have hbn:b < n:=by simpa using hbn
   exact .ptr b off a hbn fun p hp=>ha p (by rw [← sealL_at hbn];exact hp)
  ·cases h
 | mpr b r hb hr =>
  simp only [shutV,cond_eq_ite] at h
  split at h
  ·rename_i hbn
   cases h
   have hbn:b < n:=by simpa using hbn
   exact .mpr b r hbn fun p hp=>hr p (by rw [← sealL_at hbn];exact hp)
  ·cases h
 | rop x rb ro cv h1 h2 h3 =>
  simp only [shutV,Option.map_eq_some_iff] at h
  obtain ⟨z,hz,rfl⟩:=h
  obtain ⟨a1,_,a2⟩:=shutV_cells hz
  refine .rop z rb ro cv (fun j hj => ?_) (fun j c' hj => ?_) (fun j c' hj => ?_)
  ·obtain ⟨k1,k2⟩:=h1 j (by omega)
   exact ⟨k1,sealL_imm k2⟩
  ·obtain ⟨c,d',hd,hc,hs⟩:=a2 j c' hj
   exact (shutV_cells hs).2.1 (h2 j c hc)
  ·obtain ⟨c,d',hd,hc,hs⟩:=a2 j c' hj
   exact ih' d' hd c c' hs _ (h3 j c hc)
 | lit0 sz own a hp =>
  cases own with
  | fam=>cases hp
  | _ =>
   simp only [shutV,mapO,Option.some.injEq] at h
   subst h
   exact .lit0 sz _ a rfl
 | lit sz own xs rb ro cap cv hc hsz h1 h2 h3 ho =>
  simp only [shutV] at h
  split at h
  ·rename_i ys hys
   cases h
   obtain ⟨a1,a2,a3,a4⟩:=flat_shut hys
   rw [← a1]
   refine .lit sz _ ys rb ro cap cv (by omega) (fun y hy => ?_) (fun j hj => ?_) (fun j c' hj => ?_) (fun j c' hj => ?_) ?_
   ·obtain ⟨x,hx,he⟩:=a2 y hy
    rw [he];exact hsz x hx
   ·obtain ⟨k1,k2⟩:=h1 j (by rw [← a1];exact hj)
    exact ⟨k1,sealL_imm k2⟩
   ·obtain ⟨c,d',hd,hcc,hs⟩:=a4 j c' hj
    exact (shutV_cells hs).2.1 (h2 j c hcc)
   ·obtain ⟨c,d',hd,hcc,hs⟩:=a4 j c' hj
    exact ih' d' hd c c' hs _ (h3 j c hcc)
   ·rw [a1]
    cases own with
    | sealed=>trivial
    | exact=>exact ho
    | fam g s =>
     simp only [cond_eq_ite]
     by_cases hg:g < n
     ·simp only [hg,decide_true,if_true]
      exact ⟨hg,fun F hF=>ho.2 F (by rw [← sealL_fam hg];exact hF)⟩
     ·simp only [hg,decide_false,Bool.false_eq_true,if_false]
      trivial
  ·cases h
 | arr sz b off len a cap hb hc ha =>
  simp only [shutV,cond_eq_ite] at h
  split at h
  ·rename_i hbn
   cases h
   have hbn:b < n:=by simpa using hbn
   refine .arr sz b off len a cap hbn hc fun p hp => ?_
   obtain ⟨k1,k2,k3⟩:=ha p (by rw [← sealL_at hbn];exact hp)
   exact ⟨k1,fun j hj=>sealL_blk (k2 j hj) hbn,k3⟩
  ·rename_i hbn
   have hbn:¬ b < n:=by simpa using hbn
   split at h
   ·rename_i xs hxs
    simp only [Option.map_eq_some_iff] at h
    obtain ⟨ys,hys,rfl⟩:=h
    simp only [elems,beq_self_eq_true,cond_true] at hxs
    split at hxs
    ·rename_i cs hcs
     obtain ⟨p,h1,h2,h3⟩:=hI.blks b cs (blkCells_eq hcs)
     obtain ⟨rfl,k2,k3⟩:=ha p h1
     obtain ⟨a1,a2,a3,a4⟩:=flat_shut hys
     have facts:xs.length=len∧(∀ x ∈ xs,x.cells.length=sz)∧(∀ (j:Nat) c,(flat xs)[j]?=some c→cs[off + j]?=some c)∧∀ j,j < len * sz→off + j < cs.length:=by
      by_cases h0:sz=0
      ·subst h0
       obtain ⟨b1,b2,b3⟩:=chunk_zero _ _ _ hxs
       exact ⟨b1,b2,fun j c hj=>by rw [b3] at hj;simp at hj,fun j hj=>by simp at hj⟩
      ·obtain ⟨b1,b2,b3,b4⟩:=chunk_ok h0 len (cs.drop off) xs (fun j c hj=>by rw [List.getElem?_drop] at hj;exact (h3 _ c hj).2.1) hxs
       refine ⟨b1,b2,fun j c hj => ?_,fun j hj => ?_⟩
       ·rw [b3,List.getElem?_take] at hj
        split at hj
        ·rw [List.getElem?_drop] at hj;exact hj
        ·cases hj
       ·simp only [List.length_drop] at b4;omega
     obtain ⟨b1,b2,b3,b4⟩:=facts
     rw [show len=ys.length by omega]
     refine .lit sz .sealed ys p.1 (p.2 + off) cap (fun j=>(w.cell? ⟨p.1,p.2 + off + j,none⟩).getD default) (by omega) (fun y hy => ?_) (fun j hj => ?_) (fun j c' hj => ?_) (fun j c' hj => ?_) trivial
     ·obtain ⟨x,hx,he⟩:=a2 y hy
      rw [he];exact b2 x hx
     ·have hlt:=b4 j (by rw [← b1,← a1];exact hj)
      obtain ⟨k1,_,rv,k4,_⟩:=h3 (off + j) _ (List.getElem?_eq_getElem hlt)
      rw [← Nat.add_assoc] at k1 k4
      exact ⟨by rw [k4];rfl,sealL_gone k1 hbn⟩
     ·obtain ⟨c,d',hd,hcc,hs⟩:=a4 j c' hj
      exact (shutV_cells hs).2.1 (h3 _ c (b3 j c hcc)).2.1
     ·obtain ⟨c,d',hd,hcc,hs⟩:=a4 j c' hj
      obtain ⟨_,_,rv,k4,k5⟩:=h3 (off + j) c (b3 j c hcc)
      rw [← Nat.add_assoc] at k4
      rw [k4]
      exact ih' d' hd c c' hs _ k5
    ·cases hxs
   ·cases h
 | fn f xs ys rx ry h1 h2 h3 h4 =>
  simp only [shutV] at h
  split at h
  ·rename_i a b ha hb
   cases h
   refine .fn f a b rx ry (by rw [h1,(mapO_eq _ _ _ ha).1]) (by rw [h2,(mapO_eq _ _ _ hb).1]) (fun i x hx => ?_) (fun i x hx => ?_)
   ·obtain ⟨z,k1,k2⟩:=mapO_back ha i x hx
    exact ih' d (Nat.le_refl _) z x k2 _ (h3 i z k1)
   ·obtain ⟨z,k1,k2⟩:=mapO_back hb i x hx
    exact ih' d (Nat.le_refl _) z x k2 _ (h4 i z k1)
  ·cases h
 | iface t x v hx =>
  simp only [shutV,Option.map_eq_some_iff] at h
  obtain ⟨z,hz,rfl⟩:=h
  exact .iface t z v (ih' d (Nat.le_refl _) x z hz v hx)
 | agg cs rc h1 h2 h3 =>
  simp only [shutV,Option.map_eq_some_iff] at h
  obtain ⟨ys,hys,rfl⟩:=h
  refine .agg ys rc (by rw [h1,(mapO_eq _ _ _ hys).1]) (fun i x hx => ?_) (fun i x hx => ?_)
  ·obtain ⟨z,k1,k2⟩:=mapO_back hys i x hx
   exact (shutV_cells k2).2.1 (h2 i z k1)
  ·obtain ⟨z,k1,k2⟩:=mapO_back hys i x hx
   exact ih' d (Nat.le_refl _) z x k2 _ (h3 i z k1)
 | tup cs rc h1 h3 =>
  simp only [shutV,Option.map_eq_some_iff] at h
  obtain ⟨ys,hys,rfl⟩:=h
  refine .tup ys rc (by rw [h1,(mapO_eq _ _ _ hys).1]) (fun i x hx => ?_)
  obtain ⟨z,k1,k2⟩:=mapO_back hys i x hx
  exact ih' d (Nat.le_refl _) z x k2 _ (h3 i z k1)
theorem all_get {α:Type} {p:α→Bool} {l:List α} (h:l.all p=true) (i:Nat) (x:α) (hx:l[i]?=some x):p x=true:=List.all_eq_true.1 h x (List.mem_of_getElem? hx)
theorem clo_cells {n d:Nat} {x:AV} (h:clo n d x=true):∀ (j:Nat) c,x.cells[j]?=some c→∃ d',d'≤d∧clo n d' c=true:=fun j c hj=>by
 cases d with
 | zero=>cases h
 | succ d =>
  cases x with
  | agg cs=>exact ⟨d,by omega,all_get h j c hj⟩
  | _ =>
   simp only [AV.cells] at hj
   cases j with
   | zero=>simp at hj;subst hj;exact ⟨d + 1,Nat.le_refl _,h⟩
   | succ j=>simp at hj
theorem flat_clo {n d:Nat}:∀ {xs:List AV},xs.all (clo n d)=true→∀ (j:Nat) c,(flat xs)[j]?=some c→∃ d',d'≤d∧clo n d' c=true
 | [],_,j,c,h=>by simp [flat] at h
 | x::xs,h,j,c,hj=>by
  simp only [List.all_cons,Bool.and_eq_true] at h
  simp only [flat] at hj
  by_cases hlt:j < x.cells.length
  ·rw [List.getElem?_append_left hlt] at hj
   exact clo_cells h.1 j c hj
  ·rw [List.getElem?_append_right (by omega)] at hj
   exact flat_clo h.2 _ c hj
theorem clo_ok {w:World} {L:Lay} {N n:Nat}:∀ (d:Nat) (x:AV),clo n d x=true→∀ v,VR N L w x v→VR n L w x v:=by
 intro d
 induction d using Nat.strongRecOn with
 | _ d ih =>
 intro x h v hv
 cases d with
 | zero=>cases h
 | succ d =>
 have ih':∀ d',d'≤d→∀ (x:AV),clo n d' x=true→∀ v,VR N L w x v→VR n L w x v:=fun d' hd=>ih d' (by omega)
 cases hv with
 | bool b=>exact .bool b
 | int k i=>exact .int k i
 | str l s hs=>exact .str l s hs
 | nilP=>exact .nilP
 | nilS=>exact .nilS
 | nilF=>exact .nilF
 | nilI=>exact .nilI
 | nilM=>exact .nilM
 | ptr b off a hb ha=>exact .ptr b off a (by simpa [clo] using h) ha
 | mpr b r hb hr=>exact .mpr b r (by simpa [clo] using h) hr
 | rop x rb ro cv h1 h2 h3 =>
  refine .rop x rb ro cv h1 h2 fun j c hj => ?_
  obtain ⟨d',hd,hc⟩:=clo_cells (show clo n d x=true from h) j c hj
  exact ih' d' hd c hc _ (h3 j c hj)
 | lit0 sz own a hp=>exact .lit0 sz own a hp
 | lit sz own xs rb ro cap cv hc hsz h1 h2 h3 ho =>
  simp only [clo,Bool.and_eq_true] at h
  refine .lit sz own xs rb ro cap cv hc hsz h1 h2 (fun j c hj => ?_) ?_
  ·obtain ⟨d',hd,hcc⟩:=flat_clo h.2 j c hj
   exact ih' d' hd c hcc _ (h3 j c hj)
  ·cases own with
   | sealed=>trivial
   | exact=>exact ho
   | fam g s=>exact ⟨by simpa using h.1,ho.2⟩
 | arr sz b off len a cap hb hc ha=>exact .arr sz b off len a cap (by simpa [clo] using h) hc ha
 | fn f xs ys rx ry h1 h2 h3 h4 =>
  simp only [clo,Bool.and_eq_true] at h
  exact .fn f xs ys rx ry h1 h2 (fun i x hx=>ih' d (Nat.le_refl _) x (all_get h.1 i x hx) _ (h3 i x hx)) (fun i x hx=>ih' d (Nat.le_refl _) x (all_get h.2 i x hx) _ (h4 i x hx))
 | iface t x v hx=>exact .iface t x v (ih' d (Nat.le_refl _) x h v hx)
 | agg cs rc h1 h2 h3=>exact .agg cs rc h1 h2 fun i x hx=>ih' d (Nat.le_refl _) x (all_get h i x hx) _ (h3 i x hx)
 | tup cs rc h1 h3=>exact .tup cs rc h1 fun i x hx=>ih' d (Nat.le_refl _) x (all_get h i x hx) _ (h3 i x hx)
theorem clo_up {n:Nat}:∀ {d e:Nat} {x:AV},clo n d x=true→d≤e→clo n e x=true
 | 0,_,_,h,_=>by cases h
 | _ + 1,0,_,_,h=>by omega
 | d + 1,e + 1,x,h,he=>by
  have al:∀ xs:List AV,xs.all (clo n d)=true→xs.all (clo n e)=true:=fun xs hx=>by
   rw [List.all_eq_true] at *
   exact fun y hy=>clo_up (hx y hy) (by omega)
  cases x with
  | rop y=>exact clo_up (x:=y) (d:=d) (e:=e) h (by omega)
  | lit sz own xs =>
   simp only [clo,Bool.and_eq_true] at *
   exact ⟨h.1,al _ h.2⟩
  | fn f a b =>
   simp only [clo,Bool.and_eq_true] at *
   exact ⟨al _ h.1,al _ h.2⟩
  | iface t y=>exact clo_up (x:=y) (d:=d) (e:=e) h (by omega)
  | agg cs=>exact al _ h
  | tup cs=>exact al _ h
  | _=>exact h
mutual
theorem cloA_fuel {n:Nat}:∀ (x:AV),cloA n x=true→∃ d,clo n d x=true
 | .ptr b o,h=>⟨1,by simpa only [clo,cloA] using h⟩
 | .mpr b,h=>⟨1,by simpa only [clo,cloA] using h⟩
 | .rop x,h=>by
  rw [cloA] at h
  obtain ⟨d,hd⟩:=cloA_fuel x h
  exact ⟨d + 1,hd⟩
 | .lit sz own xs,h=>by
  rw [cloA,Bool.and_eq_true] at h
  obtain ⟨d,hd⟩:=cloAs_fuel xs h.2
  refine ⟨d + 1, ?_⟩
  simp only [clo,Bool.and_eq_true]
  exact ⟨by cases own <;> first | rfl | exact h.1,hd⟩
 | .arr sz b o l,h=>⟨1,by simpa only [clo,cloA] using h⟩
 | .fn f a b,h=>by
  rw [cloA,Bool.and_eq_true] at h
  obtain ⟨d,hd⟩:=cloAs_fuel a h.1
  obtain ⟨e,he⟩:=cloAs_fuel b h.2
  have al:∀ (d':Nat) (xs:List AV),d'≤d + e→xs.all (clo n d')=true→xs.all (clo n (d + e))=true:=fun d' xs hd' hx=>by
   rw [List.all_eq_true] at *
   exact fun y hy=>clo_up (hx y hy) hd'
  refine ⟨d + e + 1, ?_⟩
  simp only [clo,Bool.and_eq_true]
  exact ⟨al d a (by omega) hd,al e b (by omega) he⟩
 | .iface t x,h=>by
  rw [cloA] at h
  obtain ⟨d,hd⟩:=cloA_fuel x h
  exact ⟨d + 1,hd⟩
 | .agg cs,h=>by
  rw [cloA] at h
  obtain ⟨d,hd⟩:=cloAs_fuel cs h
  exact ⟨d + 1,hd⟩
 | .tup cs,h=>by
  rw [cloA] at h
  obtain ⟨d,hd⟩:=cloAs_fuel cs h
  exact ⟨d + 1,hd⟩
 | .bool b,_=>⟨1,rfl⟩
 | .int k i,_=>⟨1,rfl⟩
 | .str s,_=>⟨1,rfl⟩
 | .nilP,_=>⟨1,rfl⟩
 | .nilS,_=>⟨1,rfl⟩
 | .nilF,_=>⟨1,rfl⟩
 | .nilI,_=>⟨1,rfl⟩
 | .nilM,_=>⟨1,rfl⟩
theorem cloAs_fuel {n:Nat}:∀ (xs:List AV),cloAs n xs=true→∃ d,xs.all (clo n d)=true
 | [],_=>⟨0,rfl⟩
 | x::xs,h=>by
  rw [cloAs,Bool.and_eq_true] at h
  obtain ⟨d,hd⟩:=cloA_fuel x h.1
  obtain ⟨e,he⟩:=cloAs_fuel xs h.2
  refine ⟨d + e, ?_⟩
  rw [List.all_cons,Bool.and_eq_true]
  refine ⟨clo_up hd (by omega), ?_⟩
  rw [List.all_eq_true] at *
  exact fun y hy=>clo_up (he y hy) (by omega)
end
theorem cloAs_mem {n:Nat}:∀ {xs:List AV},cloAs n xs=true↔∀ x ∈ xs,cloA n x=true
 | []=>by simp [cloAs]
 | x::xs=>by rw [cloAs,Bool.and_eq_true,cloAs_mem (xs:=xs)];simp
end
end Go.Proofs.YtgbheglnmdnkoaaGreatDoor.E
