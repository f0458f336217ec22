/- Steps of the seat's proofs: an evaluator of the program's code, its soundness, and what the functions come to. -/
import Derived.Test.YtgbheglnmdnkoaaGreatDoorEad
import Derived.Maps.OwnSet
import Derived.Sort.KeysCollected
import Derived.Sort.Walk0
import Derived.StringKeys
import Derived.Shelf.RegionOpenPlain
import Derived.WalkKit
import Derived.Lib.Walk
import Derived.Lib.SliceRun
import Derived.Laws.Externs
import Derived.Laws.IdiomCopy
set_option linter.unusedSimpArgs false
set_option linter.unusedVariables false
namespace Go.Proofs.YtgbheglnmdnkoaaGreatDoor.E
open Go E.R
section
variable {C:Cfg}
theorem cloAs_app {n:Nat} {xs ys:List AV}:cloAs n (xs++ys)=true↔cloAs n xs=true∧cloAs n ys=true:=by
 simp only [cloAs_mem,List.mem_append]
 exact ⟨fun h=>⟨fun x hx=>h x (.inl hx),fun x hx=>h x (.inr hx)⟩,fun ⟨h1,h2⟩ x hx=>hx.elim (h1 x) (h2 x)⟩
theorem cloAs_sub {n:Nat} {xs ys:List AV} (h:cloAs n xs=true) (hs:∀ y ∈ ys,y ∈ xs):cloAs n ys=true:=cloAs_mem.2 fun y hy=>cloAs_mem.1 h y (hs y hy)
theorem cloAs_drop {n k:Nat} {xs:List AV} (h:cloAs n xs=true):cloAs n (xs.drop k)=true:=cloAs_sub h fun _ hy=>List.mem_of_mem_drop hy
theorem cloAs_take {n k:Nat} {xs:List AV} (h:cloAs n xs=true):cloAs n (xs.take k)=true:=cloAs_sub h fun _ hy=>List.mem_of_mem_take hy
theorem cloAs_get {n k:Nat} {xs:List AV} {x:AV} (h:cloAs n xs=true) (hx:getAt xs k=some x):cloA n x=true:=by
 rw [getAt_eq] at hx;exact cloAs_mem.1 h x (List.mem_of_getElem? hx)
theorem cloAs_cells {n:Nat} {x:AV}:cloAs n x.cells=cloA n x:=by
 cases x <;> simp [AV.cells,cloAs,cloA]
theorem cloAs_flat {n:Nat}:∀ {xs:List AV},cloAs n xs=true→cloAs n (flat xs)=true
 | [],_=>rfl
 | x::xs,h=>by
  rw [cloAs,Bool.and_eq_true] at h
  exact cloAs_app.2 ⟨by rw [cloAs_cells];exact h.1,cloAs_flat h.2⟩
theorem cloAs_splice {n:Nat}:∀ {xs ys:List AV} {k:Nat},cloAs n xs=true→cloAs n ys=true→cloAs n (splice xs k ys)=true
 | xs,ys,0,h,g=>by
  have:splice xs 0 ys=ys++xs.drop ys.length:=by cases xs <;> rfl
  rw [this];exact cloAs_app.2 ⟨g,cloAs_drop h⟩
 | [],_,_ + 1,_,_=>rfl
 | x::xs,ys,k + 1,h,g=>by
  rw [cloAs,Bool.and_eq_true] at h
  show cloAs n (x::splice xs k ys)=true
  rw [cloAs,Bool.and_eq_true]
  exact ⟨h.1,cloAs_splice h.2 g⟩
theorem cloAs_setAt {n:Nat} {xs:List AV} {k:Nat} {x:AV} (h:cloAs n xs=true) (g:cloA n x=true):cloAs n (setAt xs k x)=true:=by
 rw [setAt_eq,cloAs_mem]
 intro y hy
 rcases List.mem_or_eq_of_mem_set hy with hy | rfl
 ·exact cloAs_mem.1 h y hy
 ·exact g
theorem cloAs_rep {n k:Nat} {x:AV} (h:cloA n x=true):cloAs n (List.replicate k x)=true:=cloAs_mem.2 fun y hy=>by rw [List.eq_of_mem_replicate hy];exact h
theorem part_c {n:Nat} {ti:TI} {cs:List AV} {off:Nat} {x:AV} (h:cloAs n cs=true) (hx:part ti cs off=some x):cloA n x=true:=by
 unfold part at hx
 simp only [cond_eq_ite] at hx
 split at hx
 ·split at hx
  ·cases hx;exact cloAs_take (cloAs_drop h)
  ·cases hx
 ·exact cloAs_get h hx
theorem chunk_c {n sz:Nat}:∀ {k:Nat} {cs xs:List AV},cloAs n cs=true→chunk sz k cs=some xs→cloAs n xs=true
 | 0,_,_,_,h=>by cases h;rfl
 | k + 1,cs,xs,hc,h=>by
  unfold chunk at h
  simp only [cond_eq_ite] at h
  split at h
  ·rename_i x hx
   split at h
   ·rename_i ys hys
    cases h
    rw [cloAs,Bool.and_eq_true]
    refine ⟨?_,chunk_c (cloAs_drop hc) hys⟩
    split at hx
    ·exact cloAs_mem.1 hc x (List.mem_of_mem_head? hx)
    ·split at hx
     ·cases hx;exact cloAs_take hc
     ·cases hx
   ·cases h
  ·cases h
theorem blkCells_c {n b:Nat} {hp:List Blk} {cs:List AV} (h:cloH n hp=true) (hb:blkCells hp b=some cs):cloAs n cs=true:=by
 have:=blkCells_eq hb
 unfold cloH at h
 exact List.all_eq_true.1 h _ (List.mem_of_getElem? this)
theorem elems_c {n sz:Nat} {hp:List Blk} {x:AV} {xs:List AV} (h:cloH n hp=true) (hx:cloA n x=true) (he:elems hp sz x=some xs):cloAs n xs=true:=by
 unfold elems at he
 simp only [cond_eq_ite] at he
 split at he
 ·cases he;rfl
 ·split at he
  ·cases he
   rw [cloA,Bool.and_eq_true] at hx
   exact hx.2
  ·cases he
 ·split at he
  ·split at he
   ·rename_i hb
    exact chunk_c (cloAs_drop (blkCells_c h hb)) he
   ·cases he
  ·cases he
 ·split at he
  ·cases he
   refine cloAs_mem.2 fun y hy => ?_
   obtain ⟨c,_,rfl⟩:=List.mem_map.1 hy
   rfl
  ·cases he
 ·cases he
theorem mapO_c {α:Type} {f:α→Option AV} {n:Nat}:∀ {xs:List α} {ys:List AV},(∀ x ∈ xs,∀ y,f x=some y→cloA n y=true)→mapO f xs=some ys→cloAs n ys=true
 | [],_,_,h=>by cases h;rfl
 | x::xs,ys,hf,h=>by
  unfold mapO at h
  split at h
  ·rename_i y hy
   split at h
   ·rename_i zs hz
    cases h
    rw [cloAs,Bool.and_eq_true]
    exact ⟨hf x (by simp) y hy,mapO_c (fun z hz=>hf z (by simp [hz])) hz⟩
   ·cases h
  ·cases h
theorem ofConst_c {n:Nat}:∀ (d:Nat) (v:Value) (x:AV),ofConst d v=some x→cloA n x=true
 | 0,_,_,h=>by cases h
 | d + 1,v,x,h=>by
  unfold ofConst at h
  simp only [cond_eq_ite] at h
  split at h
  all_goals first
   | (cases h;done)
   | (cases h;rfl)
   | skip
  ·split at h
   ·rename_i r hr
    split at h
    ·cases h
     exact mapO_c (fun v _ y hy=>ofConst_c d v y hy) hr
    ·cases h
   ·cases h
  ·simp only [Option.map_eq_some_iff] at h
   obtain ⟨r,hr,rfl⟩:=h
   exact mapO_c (fun v _ y hy=>ofConst_c d v y hy) hr
def tvC (n:Nat):TV→Prop
 | .v x=>cloA n x=true
 | .bx cs=>cloAs n cs=true
 | _=>True
theorem tvC_mono {n k:Nat} (hk:n≤k):∀ {x:TV},tvC n x→tvC k x
 | .v x,h=>cloA_mono hk x h
 | .bx cs,h=>cloAs_mono hk cs h
 | .junk,_=>trivial
 | .sk,_=>trivial
 | .lp _ _,_=>trivial
def TsC (n:Nat) (ts:List TV):Prop:=∀ x ∈ ts,tvC n x
structure GoodC (C:Cfg):Prop where
 ty:∀ t ti,C.ty t=some ti→∀ n,cloAs n ti.zero=true
 glob:∀ g v,C.glob g=some v→∀ n,cloA n v=true
 memo:∀ f args r,C.memo f args=some r→cloA r.2.length r.1=true∧cloH r.2.length r.2=true
 ext:∀ f e,C.ext f=some e→∀ hp args v n,e hp args=some v→cloAs n args=true→cloH n hp=true→cloA n v=true
structure OkS (st:St):Prop where
 ts:TsC st.hp.length st.tmps
 hp:cloH st.hp.length st.hp=true
structure OkR (st:St) (r:Res):Prop where
 val:tvC r.hp.length r.val
 ts:TsC r.hp.length r.tmps
 hp:cloH r.hp.length r.hp=true
 le:st.hp.length≤r.hp.length
def CallC (call:CallF):Prop:=∀ f args hp v hp',call f args hp=some (v,hp')→cloAs hp.length args=true→cloH hp.length hp=true→cloA hp'.length v=true∧cloH hp'.length hp'=true∧hp.length≤hp'.length
variable (G:GoodC C)
theorem get_c {n k:Nat} {ts:List TV} {x:TV} (h:TsC n ts) (hx:getAt ts k=some x):tvC n x:=by
 rw [getAt_eq] at hx;exact h x (List.mem_of_getElem? hx)
include G in
theorem opnd_c {n:Nat} {ts:List TV} {x:Operand} {y:TV} (h:TsC n ts) (hx:opnd C ts x=some y):tvC n y:=by
 unfold opnd at hx
 split at hx
 ·split at hx
  ·cases hx;trivial
  ·rename_i hg;cases hx;exact get_c h hg
  ·cases hx;trivial
 ·simp only [Option.map_eq_some_iff] at hx
  obtain ⟨z,hz,rfl⟩:=hx
  exact ofConst_c _ _ _ hz
 ·simp only [Option.map_eq_some_iff] at hx
  obtain ⟨z,hz,rfl⟩:=hx
  show cloA n (.rop z)=true
  rw [cloA];exact G.glob _ _ hz n
 ·cases hx;rfl
include G in
theorem opv_c {n:Nat} {ts:List TV} {x:Operand} {y:AV} (h:TsC n ts) (hx:opv C ts x=some y):cloA n y=true:=by
 unfold opv at hx
 split at hx
 ·rename_i hy;cases hx;exact opnd_c G h hy
 ·cases hx
theorem okR {st:St} (ho:OkS st) {x:TV} {f:Fp} (hx:tvC st.hp.length x):OkR st ⟨x,st.tmps,st.hp,f⟩:=⟨hx,ho.ts,ho.hp,Nat.le_refl _⟩
theorem ofO_c {st:St} (ho:OkS st) {x:Option AV} {r:Res} (hx:∀ y,x=some y→cloA st.hp.length y=true) (h:ofO st x=some r):OkR st r:=by
 simp only [ofO,Option.map_eq_some_iff] at h
 obtain ⟨y,hy,rfl⟩:=h
 exact okR ho (hx y hy)
theorem TsC.mono {n k:Nat} (hk:n≤k) {ts:List TV} (h:TsC n ts):TsC k ts:=fun x hx=>tvC_mono hk (h x hx)
theorem cloH_app {n:Nat} {hp:List Blk} {b:Blk} (h:cloH n hp=true) (hb:cloB n b=true):cloH n (hp++[b])=true:=by
 unfold cloH at *
 rw [List.all_append,h]
 simp [hb]
theorem cloH_setB {n b:Nat} {hp:List Blk} {x:Blk} (h:cloH n hp=true) (hb:cloB n x=true):cloH n (setAt hp b x)=true:=by
 unfold cloH at *
 rw [List.all_eq_true] at *
 intro y hy
 rw [setAt_eq] at hy
 rcases List.mem_or_eq_of_mem_set hy with hy | rfl
 ·exact h y hy
 ·exact hb
theorem okApp {st:St} (ho:OkS st) {hp:List Blk} {x:TV} {b:Blk} {f:Fp} (hl:hp.length=st.hp.length) (hh:cloH st.hp.length hp=true) (hx:tvC (st.hp.length + 1) x) (hb:cloB (st.hp.length + 1) b=true):OkR st ⟨x,st.tmps,hp++[b],f⟩:=by
 have e:(hp++[b]).length=st.hp.length + 1:=by simp [hl]
 refine ⟨by dsimp only;rw [e];exact hx,by dsimp only;rw [e];exact ho.ts.mono (by omega), ?_,by dsimp only;omega⟩
 dsimp only
 rw [e]
 exact cloH_app (cloH_mono (by omega) hh) hb
theorem okSet {st:St} (ho:OkS st) {x:TV} {b:Nat} {y:Blk} {f:Fp} (hx:tvC st.hp.length x) (hb:cloB st.hp.length y=true):OkR st ⟨x,st.tmps,setAt st.hp b y,f⟩:=by
 have e:(setAt st.hp b y).length=st.hp.length:=setAt_length _ _ _
 refine ⟨by dsimp only;rw [e];exact hx,by dsimp only;rw [e];exact ho.ts, ?_,by dsimp only;omega⟩
 dsimp only
 rw [e]
 exact cloH_setB ho.hp hb
theorem newBlk_c {st:St} (ho:OkS st) {cs:List AV} {mk:Nat→AV} {r:Res} (hc:cloAs (st.hp.length + 1) cs=true) (hm:cloA (st.hp.length + 1) (mk st.hp.length)=true) (h:newBlk st cs mk=some r):OkR st r:=by
 simp only [newBlk,Option.some.injEq] at h
 subst h
 exact okApp ho rfl ho.hp hm hc
theorem slot_c {n k:Nat} {ts:List TV} {cs:List AV} (h:TsC n ts) (hx:slotCells ts k=some cs):cloAs n cs=true:=by
 unfold slotCells at hx
 split at hx
 ·rename_i e;cases hx;exact get_c h e
 ·cases hx
theorem asVal_c {n:Nat} {ti:TI} {v x:AV} (h:cloA n v=true) (hx:asVal ti v=some x):cloA n x=true:=by
 unfold asVal at hx
 simp only [cond_eq_ite] at hx
 split at hx
 ·split at hx
  ·split at hx
   ·cases hx;exact h
   ·cases hx
  ·cases hx
 ·split at hx
  ·cases hx
  ·cases hx
  ·cases hx;exact h
theorem loadAt_c {st:St} (ho:OkS st) {t:TypeId} {a:TV} {r:Res} (ha:tvC st.hp.length a) (h:loadAt C st t a=some r):OkR st r:=by
 unfold loadAt at h
 split at h
 ·cases h
 split at h
 ·rename_i v
  refine ofO_c ho (fun y hy=>asVal_c ?_ hy) h
  exact (show cloA _ (.rop v)=true from ha)
 ·split at h
  ·rename_i hb
   simp only [Option.map_eq_some_iff] at h
   obtain ⟨x,hx,rfl⟩:=h
   exact okR ho (part_c (blkCells_c ho.hp hb) hx)
  ·cases h
 ·split at h
  ·rename_i hb
   simp only [Option.map_eq_some_iff] at h
   obtain ⟨x,hx,rfl⟩:=h
   exact okR ho (part_c (slot_c ho.ts hb) hx)
  ·cases h
 ·cases h
theorem TsC.set {n k:Nat} {ts:List TV} {x:TV} (h:TsC n ts) (hx:tvC n x):TsC n (setAt ts k x):=fun y hy=>by
 rw [setAt_eq] at hy
 rcases List.mem_or_eq_of_mem_set hy with hy | rfl
 ·exact h y hy
 ·exact hx
theorem storeAt_c {fl:Nat} {st:St} (ho:OkS st) {t:TypeId} {a:TV} {x:AV} {r:Res} (hx:cloA st.hp.length x=true) (h:storeAt C fl st t a x=some r):OkR st r:=by
 unfold storeAt at h
 simp only [cond_eq_ite] at h
 split at h
 ·cases h
 split at h
 ·cases h
 split at h
 ·split at h
  ·rename_i hb
   split at h
   ·cases h
    exact okSet ho trivial (cloAs_splice (blkCells_c ho.hp hb) (by rw [cloAs_cells];exact hx))
   ·cases h
  ·cases h
 ·split at h
  ·rename_i hb
   split at h
   ·cases h
    exact ⟨trivial,ho.ts.set (cloAs_splice (slot_c ho.ts hb) (by rw [cloAs_cells];exact hx)),ho.hp,Nat.le_refl _⟩
   ·cases h
  ·cases h
 ·cases h
theorem fieldAddr_c {n:Nat} {t:TypeId} {i:Nat} {a x:TV} (ha:tvC n a) (h:fieldAddr C t i a=some x):tvC n x:=by
 unfold fieldAddr at h
 simp only [cond_eq_ite] at h
 split at h
 ·cases h
 split at h
 ·cases h
 split at h
 ·cases h;trivial
 ·cases h;exact ha
 ·rename_i cs
  simp only [Option.map_eq_some_iff] at h
  obtain ⟨y,hy,rfl⟩:=h
  show cloA n (.rop y)=true
  rw [cloA]
  exact part_c (show cloAs n cs=true from ha) hy
 ·cases h
theorem indexAddr_c {n:Nat} {t:TypeId} {i:Int} {a x:TV} (ha:tvC n a) (h:indexAddr C t a i=some x):tvC n x:=by
 unfold indexAddr at h
 simp only [cond_eq_ite] at h
 split at h
 ·cases h
 split at h
 ·split at h
  ·cases h
  split at h
  ·cases h
  split at h
  ·cases h;trivial
  ·cases h;exact ha
  ·rename_i cs
   simp only [Option.map_eq_some_iff] at h
   obtain ⟨y,hy,rfl⟩:=h
   show cloA n (.rop y)=true
   rw [cloA]
   exact part_c (show cloAs n cs=true from ha) hy
  ·cases h
 ·split at h
  ·cases h
  split at h
  ·rename_i sz own xs
   split at h
   ·simp only [Option.map_eq_some_iff] at h
    obtain ⟨y,hy,rfl⟩:=h
    show cloA n (.rop y)=true
    rw [cloA]
    have ha:cloA n (.lit sz own xs)=true:=ha
    rw [cloA,Bool.and_eq_true] at ha
    exact cloAs_get ha.2 hy
   ·cases h
  ·split at h
   ·cases h;exact ha
   ·cases h
  ·cases h
 ·cases h
theorem indexE_c {n:Nat} {t:TypeId} {i:Int} {a x:AV} (ha:cloA n a=true) (h:indexE C t a i=some x):cloA n x=true:=by
 unfold indexE at h
 simp only [cond_eq_ite] at h
 split at h
 ·cases h
 split at h
 ·split at h
  ·cases h
  split at h
  ·cases h
  ·rename_i cs _ _ _
   exact part_c (show cloAs n _=true from ha) h
 ·simp only [Option.map_eq_some_iff] at h
  obtain ⟨y,hy,rfl⟩:=h
  rfl
 ·cases h
theorem sliceE_c {st:St} {t:TypeId} {a:TV} {lo hi mx:Option AV} {x:AV} (ha:tvC st.hp.length a) (h:sliceE C st t a lo hi mx=some x):cloA st.hp.length x=true:=by
 have key:∀ {n sz:Nat} {own own':Own} {xs ys:List AV},cloA n (.lit sz own xs)=true→(∀ y ∈ ys,y ∈ xs)→(ownC n own=true→ownC n own'=true)→cloA n (.lit sz own' ys)=true:=fun {n sz own own' xs ys} h hs ho=>by
  rw [cloA,Bool.and_eq_true] at *
  exact ⟨ho h.1,cloAs_sub h.2 hs⟩
 have sub:∀ {l h:Nat} {xs:List AV},∀ y ∈ (xs.drop l).take h,y ∈ xs:=fun y hy=>List.mem_of_mem_drop (List.mem_of_mem_take hy)
 unfold sliceE at h
 simp only [cond_eq_ite] at h
 split at h
 ·repeat' (first | (cases h;done) | (cases h;rfl) | split at h)
 ·split at h
  ·cases h
  split at h
  ·repeat' (first | (cases h;done) | (cases h;rfl) | split at h)
  ·rename_i own xs
   split at h
   ·split at h
    ·cases h
    split at h
    ·split at h
     ·split at h
      ·cases h
      ·cases h
       refine key ha sub fun _ => ?_
       split <;> rfl
     ·cases h
    ·split at h
     ·cases h
      refine key ha sub fun _ => ?_
      split <;> rfl
     ·cases h
      refine key ha sub fun h => ?_
      split
      ·exact h
      ·rfl
     ·cases h
      exact key ha sub fun h=>h
   ·cases h
  ·split at h
   ·split at h
    ·cases h
    split at h
    ·split at h
     ·split at h
      ·cases h
      ·split at h
       ·cases h;rfl
       ·cases h
     ·cases h
    ·split at h
     ·cases h;rfl
     ·cases h;exact ha
   ·cases h
  ·cases h
 ·split at h
  ·cases h
  split at h
  ·split at h
   ·split at h
    ·cases h
    ·cases h;exact ha
   ·cases h
  ·cases h
 ·cases h
theorem fill_c {n:Nat} {ti:TI}:∀ {ps:List (Nat × AV)} {cs ys:List AV},cloAs n cs=true→(∀ p ∈ ps,cloA n p.2=true)→fill ti C cs ps=some ys→cloAs n ys=true
 | [],_,_,hc,_,h=>by cases h;exact hc
 | (i,x)::ps,cs,ys,hc,hp,h=>by
  unfold fill at h
  simp only [cond_eq_ite] at h
  split at h
  ·split at h
   ·exact fill_c (cloAs_splice hc (by rw [cloAs_cells];exact hp (i,x) (by simp))) (fun p hq=>hp p (by simp [hq])) h
   ·cases h
  ·cases h
include G in
theorem valParts_c {n:Nat} {ts:List TV} (h:TsC n ts):∀ {ps:List (Nat × Operand)} {r:List (Nat × AV)},valParts C ts ps=some r→∀ p ∈ r,cloA n p.2=true
 | [],_,e=>by cases e;intro p hp;cases hp
 | (i,x)::ps,r,e=>by
  unfold valParts at e
  split at e
  ·rename_i a ha
   split at e
   ·rename_i q hq
    cases e
    intro p hp
    rcases List.mem_cons.1 hp with rfl | hp
    ·exact opv_c G h ha
    ·exact valParts_c h hq p hp
   ·cases e
  ·cases e
theorem setParts_c {n sz:Nat}:∀ {ps:List (Nat × AV)} {xs ys:List AV},cloAs n xs=true→(∀ p ∈ ps,cloA n p.2=true)→setParts sz xs ps=some ys→cloAs n ys=true
 | [],_,_,hc,_,h=>by cases h;exact hc
 | (i,x)::ps,xs,ys,hc,hp,h=>by
  unfold setParts at h
  simp only [cond_eq_ite] at h
  split at h
  ·exact setParts_c (cloAs_setAt hc (hp (i,x) (by simp))) (fun p hq=>hp p (by simp [hq])) h
  ·cases h
theorem zeros_c {n:Nat} {ti:TI} (h:cloAs n ti.zero=true):∀ k,cloAs n (zeros ti k)=true
 | 0=>rfl
 | k + 1=>cloAs_app.2 ⟨h,zeros_c h k⟩
include G in
theorem appElems_c {n:Nat} {hp:List Blk} {e:TypeId} {ei:TI} {t2:TypeId} {x:AV} {xs:List AV} (hh:cloH n hp=true) (hei:C.ty e=some ei) (hx:cloA n x=true) (h:appElems C hp ei t2 x=some xs):cloAs n xs=true:=by
 unfold appElems at h
 simp only [cond_eq_ite] at h
 split at h
 ·split at h
  ·rename_i hz
   split at h
   ·cases h
    exact cloAs_rep (part_c (G.ty _ _ hei n) hz)
   ·cases h
  ·cases h
 ·exact elems_c hh hx h
 ·exact elems_c hh hx h
 ·cases h
include G in
theorem appendE_c {fl:Nat} {arrM:Bool} {st:St} (ho:OkS st) {t t2:TypeId} {s x:AV} {r:Res} (hs:cloA st.hp.length s=true) (hx:cloA st.hp.length x=true) (h:appendE C fl arrM st t t2 s x=some r):OkR st r:=by
 unfold appendE at h
 dsimp only at h
 simp only [cond_eq_ite] at h
 split at h
 case h_2=>cases h
 split at h
 ·cases h
 rename_i hei
 split at h
 case h_2=>cases h
 rename_i xs ys hxs hys
 have hxc:=appElems_c G ho.hp hei hx hxs
 have hyc:=elems_c ho.hp hs hys
 have all:cloAs st.hp.length (ys++xs)=true:=cloAs_app.2 ⟨hyc,hxc⟩
 have all1:cloAs (st.hp.length + 1) (ys++xs)=true:=cloAs_mono (by omega) _ all
 have fresh:∀ {f:Fp} {r:Res} {ei:TI} {n k:Nat},(if arrM=true then some (Res.mk (.v (.arr ei.size st.hp.length 0 (n + k))) st.tmps (st.hp++[.cells (flat (ys++xs))]) f) else some ⟨.v (.lit ei.size (.fam st.hp.length 0) (ys++xs)),st.tmps,st.hp++[.fam (n + k)],f⟩)=some r→OkR st r:=fun {f r ei n k} h=>by
  split at h
  ·cases h
   exact okApp ho rfl ho.hp (by show cloA _ _=true;simp [cloA]) (cloAs_flat all1)
  ·cases h
   refine okApp ho rfl ho.hp (by show cloA _ _=true;rw [cloA,Bool.and_eq_true];exact ⟨by simp [ownC],all1⟩) rfl
 split at h
 ·cases h
 split at h
 ·cases h
  exact okR ho hs
 split at h
 ·exact fresh h
 ·exact fresh h
 ·split at h
  ·split at h
   ·cases h
    refine okSet ho (by show cloA _ _=true;rw [cloA,Bool.and_eq_true] at *;exact ⟨hs.1,all⟩) rfl
   ·cases h
  ·cases h
 ·split at h
  ·rename_i hb
   split at h
   ·cases h
   split at h
   ·cases h
    exact okSet ho (by simpa only [tvC,cloA] using hs) (cloAs_splice (blkCells_c ho.hp hb) (cloAs_flat hxc))
   ·cases h
    exact okApp ho (setAt_length _ _ _) (cloH_setB ho.hp rfl) (by show cloA _ _=true;simp [cloA]) (cloAs_flat all1)
  ·cases h
 ·cases h
include G in
theorem builtinE_c {fl:Nat} {arrM:Bool} {st:St} (ho:OkS st) {b:Builtin} {ts:List TypeId} {args:List AV} {r:Res} (ha:cloAs st.hp.length args=true) (h:builtinE C fl arrM st b ts args=some r):OkR st r:=by
 unfold builtinE at h
 split at h
 ·exact ofO_c ho (fun y hy=>by simp only [Option.map_eq_some_iff] at hy;obtain ⟨_,_,rfl⟩:=hy;rfl) h
 ·exact ofO_c ho (fun y hy=>by simp only [Option.map_eq_some_iff] at hy;obtain ⟨_,_,rfl⟩:=hy;rfl) h
 ·simp only [cloAs,Bool.and_eq_true] at ha
  exact appendE_c G ho ha.1 ha.2.1 h
 ·rename_i d x
  simp only [cloAs,Bool.and_eq_true] at ha
  unfold copyE at h
  simp only [cond_eq_ite] at h
  split at h
  case h_2=>cases h
  split at h
  ·cases h
  split at h
  case h_2=>cases h
  rename_i xs hxs
  split at h
  case h_2=>cases h
  split at h
  case h_2=>cases h
  rename_i hb
  split at h
  ·cases h
   exact okSet ho rfl (cloAs_splice (blkCells_c ho.hp hb) (cloAs_flat (elems_c ho.hp ha.2.1 hxs)))
  ·cases h
 ·unfold clearE at h
  simp only [cond_eq_ite] at h
  split at h
  case h_2=>cases h
  split at h
  ·cases h
  rename_i hei
  split at h
  ·cases h;exact okR ho rfl
  ·cases h;exact okR ho rfl
  ·split at h
   case h_2=>cases h
   rename_i hb
   split at h
   ·cases h
    exact okSet ho rfl (cloAs_splice (blkCells_c ho.hp hb) (zeros_c (G.ty _ _ hei _) _))
   ·cases h
  ·cases h
 ·refine ofO_c ho (fun y hy => ?_) h
  unfold minE at hy
  simp only [cond_eq_ite] at hy
  repeat' (first | (cases hy;done) | (cases hy;rfl) | split at hy)
 ·refine ofO_c ho (fun y hy => ?_) h
  unfold minE at hy
  simp only [cond_eq_ite] at hy
  repeat' (first | (cases hy;done) | (cases hy;rfl) | split at hy)
 ·cases h
theorem bytes_c {n:Nat} {s:List UInt8}:cloAs n (s.map fun c => .int .u8 c.toNat)=true:=cloAs_mem.2 fun y hy=>by
 obtain ⟨c,_,rfl⟩:=List.mem_map.1 hy;rfl
theorem convE_c {arrM:Bool} {st:St} (ho:OkS st) {s d:TypeId} {x:AV} {r:Res} (h:convE C arrM st s d x=some r):OkR st r:=by
 unfold convE at h
 split at h
 ·exact ofO_c ho (fun y hy=>by cases hy;rfl) h
 ·exact ofO_c ho (fun y hy=>by cases hy;rfl) h
 ·split at h
  ·cases arrM with
   | true=>rw [cond_true rfl] at h;exact newBlk_c ho bytes_c (by simp [cloA]) h
   | false =>
    rw [cond_false rfl] at h
    refine ofO_c ho (fun y hy => ?_) h
    cases hy
    rw [cloA,Bool.and_eq_true]
    exact ⟨rfl,bytes_c⟩
  ·cases h
 ·simp only [cond_eq_ite] at h
  split at h
  ·cases h
  split at h
  ·split at h
   ·simp only [Option.map_eq_some_iff] at h
    obtain ⟨l,hl,rfl⟩:=h
    exact okR ho rfl
   ·cases h
  ·cases h
 ·cases h
theorem arith_c {op:BinOp} {k:IntKind} {a b:Int} {n:Nat} {x:AV} (h:arith op k a b=some x):cloA n x=true:=by
 unfold arith at h
 simp only [cond_eq_ite] at h
 split at h
 all_goals first
  | (cases h;done)
  | (cases h;rfl)
  | (split at h;cases h;cases h;rfl)
theorem binE_c {op:BinOp} {t:TypeId} {cst:Bool} {x y z:AV} {n:Nat} (h:binE C op t cst x y=some z):cloA n z=true:=by
 unfold binE at h
 simp only [cond_eq_ite] at h
 split at h
 ·split at h
  ·unfold shiftE at h
   simp only [cond_eq_ite] at h
   repeat' (first | (cases h;done) | (cases h;rfl) | split at h)
  ·unfold shiftE at h
   simp only [cond_eq_ite] at h
   repeat' (first | (cases h;done) | (cases h;rfl) | split at h)
  ·split at h
   ·exact arith_c h
   ·cases h
 ·unfold strOp at h
  simp only [cond_eq_ite] at h
  repeat' (first | (cases h;done) | (cases h;rfl) | split at h)
 ·split at h
  ·split at h
   ·simp only [Option.map_eq_some_iff] at h
    obtain ⟨_,_,rfl⟩:=h;rfl
   ·cases h
  ·split at h
   ·simp only [Option.map_eq_some_iff] at h
    obtain ⟨_,_,rfl⟩:=h;rfl
   ·cases h
  ·cases h
theorem unE_c {op:UnOp} {x z:AV} {n:Nat} (h:unE op x=some z):cloA n z=true:=by
 unfold unE at h
 split at h
 ·cases h;rfl
 ·exact arith_c h
 ·cases h;rfl
 ·cases h
theorem callE_c {call:CallF} (hcall:CallC call) {st:St} (ho:OkS st) {f:FuncId} {args:List AV} {r:Res} (ha:cloAs st.hp.length args=true) (h:callE C call st f args=some r):OkR st r:=by
 unfold callE at h
 split at h
 ·rename_i v hp e
  cases h
  obtain ⟨h1,h2,h3⟩:=hcall _ _ _ _ _ e ha ho.hp
  exact ⟨h1,ho.ts.mono h3,h2,h3⟩
 ·cases h
theorem blkObj_c {n b:Nat} {hp:List Blk} {o:Ob} (h:cloH n hp=true) (hb:blkObj hp b=some o):cloB n (.obj o)=true:=by
 have:=blkObj_eq hb
 unfold cloH at h
 exact List.all_eq_true.1 h _ (List.mem_of_getElem? this)
theorem rangeE_c {st:St} (ho:OkS st) {t:TypeId} {x:AV} {r:Res} (h:rangeE C st t x=some r):OkR st r:=by
 unfold rangeE at h
 split at h
 ·simp only [newObjE,Option.some.injEq] at h
  subst h
  exact okApp ho rfl ho.hp (by simp [tvC,cloA]) rfl
 ·cases h
theorem nextE_c {fl:Nat} {st:St} (ho:OkS st) {x:AV} {s:Bool} {r:Res} (h:nextE fl st x s=some r):OkR st r:=by
 unfold nextE at h
 simp only [cond_eq_ite] at h
 repeat' (first | (cases h;done) | split at h)
 ·cases h;exact okSet ho rfl rfl
 ·cases h;exact okR ho rfl
theorem makeMapE_c {st:St} (ho:OkS st) {t:TypeId} {r:Res} (h:makeMapE C st t=some r):OkR st r:=by
 unfold makeMapE at h
 split at h
 ·simp only [newObjE,Option.some.injEq] at h
  subst h
  exact okApp ho rfl ho.hp (by simp [tvC,cloA]) rfl
 ·cases h
theorem putM_c {n:Nat} {k:List UInt8} {x:AV} (hx:cloA n x=true):∀ {es:List (List UInt8 × AV)},cloAs n (es.map fun e:List UInt8 × AV=>e.2)=true→cloAs n ((putM k x es).map fun e:List UInt8 × AV=>e.2)=true
 | [],_=>by simp [putM,cloAs,hx]
 | (j,v)::es,h=>by
  rw [List.map_cons,cloAs,Bool.and_eq_true] at h
  unfold putM
  simp only [cond_eq_ite]
  split
  ·rw [List.map_cons,cloAs,Bool.and_eq_true];exact ⟨hx,h.2⟩
  ·rw [List.map_cons,cloAs,Bool.and_eq_true];exact ⟨h.1,putM_c hx h.2⟩
theorem getM_c {n:Nat} {k:List UInt8} {x:AV}:∀ {es:List (List UInt8 × AV)},cloAs n (es.map fun e:List UInt8 × AV=>e.2)=true→getM k es=some x→cloA n x=true
 | [],_,h=>by cases h
 | (j,v)::es,h,g=>by
  rw [List.map_cons,cloAs,Bool.and_eq_true] at h
  unfold getM at g
  simp only [cond_eq_ite] at g
  split at g
  ·cases g;exact h.1
  ·exact getM_c h.2 g
theorem mapUpdateE_c {fl:Nat} {st:St} (ho:OkS st) {t:TypeId} {m k x:AV} {r:Res} (hx:cloA st.hp.length x=true) (h:mapUpdateE C fl st t m k x=some r):OkR st r:=by
 unfold mapUpdateE at h
 simp only [cond_eq_ite] at h
 split at h
 case h_2=>cases h
 split at h
 case h_2=>cases h
 rename_i hb
 split at h
 ·cases h
  exact okSet ho trivial (putM_c hx (blkObj_c ho.hp hb))
 ·cases h
theorem mapT_ty {t:TypeId} {ti:TI} (h:mapT C t=some ti):∃ e,C.ty e=some ti:=by
 unfold mapT at h
 split at h
 ·split at h
  ·exact ⟨_,h⟩
  ·cases h
 ·cases h
include G in
theorem lookupE_c {st:St} (ho:OkS st) {t:TypeId} {m k:AV} {ok:Bool} {r:Res} (h:lookupE C st t m k ok=some r):OkR st r:=by
 have two:∀ {n:Nat} {x:AV} (b:Bool),cloA n x=true→cloA n (bif ok then .tup [x, .bool b] else x)=true:=fun {n x} b hx=>by
  cases ok
  ·exact hx
  ·simp [cloA,cloAs,hx]
 unfold lookupE at h
 split at h
 case h_2=>cases h
 rename_i hti
 split at h
 case h_2=>cases h
 rename_i hb
 split at h
 ·rename_i hv
  cases h
  exact okR ho (two _ (getM_c (blkObj_c ho.hp hb) hv))
 ·simp only [Option.map_eq_some_iff] at h
  obtain ⟨z,hz,rfl⟩:=h
  obtain ⟨e,he⟩:=mapT_ty hti
  exact okR ho (two _ (part_c (G.ty _ _ he _) hz))
include G in
theorem evOp_c {call:CallF} (hcall:CallC call) {fl:Nat} {me:FuncId} {o:Oper} {st:St} (ho:OkS st) {r:Res} (h:evOp C call fl me o st=some r):OkR st r:=by
 have up:∀ {v:AV},cloA st.hp.length v=true→cloAs (st.hp.length + 1) v.cells=true:=fun {v} hv=>by rw [cloAs_cells];exact cloA_mono (by omega) v hv
 have pr:∀ {x:TV} {r:Res},tvC st.hp.length x→pureR st x=some r→OkR st r:=fun {x r} hx h=>by have:=pureR_eq h;subst this;exact okR ho hx
 unfold evOp at h
 split at h
 ·simp only [Option.bind_eq_some_iff] at h
  obtain ⟨y,hy,h⟩:=h
  exact pr (opnd_c G ho.ts hy) h
 ·simp only [Option.bind_eq_some_iff] at h
  obtain ⟨y,hy,h⟩:=h
  exact pr (opnd_c G ho.ts hy) h
 ·split at h
  ·simp only [Option.bind_eq_some_iff] at h
   obtain ⟨y,hy,h⟩:=h
   exact pr (opnd_c G ho.ts hy) h
  ·cases h
 ·split at h
  ·cases h
  rename_i hti
  simp only [cond_eq_ite] at h
  split at h
  ·cases h
  split at h
  ·cases h
  split at h
  ·cases h
   exact okR ho (G.ty _ _ hti _)
  ·exact newBlk_c ho (G.ty _ _ hti _) (by simp [cloA]) h
 ·split at h
  case h_2=>cases h
  rename_i a d ha hd
  simp only [cond_eq_ite] at h
  split at h
  ·cases h
  split at h
  ·cases h
   exact okR ho (by show cloAs _ _=true;rw [cloAs_cells];exact opv_c G ho.ts ha)
  ·exact newBlk_c ho (up (opv_c G ho.ts ha)) (by simp [cloA]) h
 ·split at h
  ·rename_i ti vs hti hvs
   simp only [cond_eq_ite] at h
   split at h
   ·refine ofO_c ho (fun y hy => ?_) h
    simp only [Option.map_eq_some_iff] at hy
    obtain ⟨cs,hcs,rfl⟩:=hy
    exact fill_c (G.ty _ _ hti _) (valParts_c G ho.ts hvs) hcs
   ·cases h
  ·cases h
 ·split at h
  ·rename_i hvs
   split at h
   ·cases h
   rename_i hei
   split at h
   ·cases h
   rename_i z hz
   split at h
   ·cases h
   rename_i xs hxs
   have hxc:cloAs st.hp.length xs=true:=setParts_c (cloAs_rep (part_c (G.ty _ _ hei _) hz)) (valParts_c G ho.ts hvs) hxs
   simp only [cond_eq_ite] at h
   split at h
   ·cases h
   split at h
   ·exact newBlk_c ho (cloAs_flat (cloAs_mono (by omega) _ hxc)) (by simp [cloA]) h
   ·refine ofO_c ho (fun y hy => ?_) h
    cases hy
    rw [cloA,Bool.and_eq_true]
    exact ⟨rfl,hxc⟩
  ·cases h
 ·simp only [Option.bind_eq_some_iff] at h
  obtain ⟨y,hy,h⟩:=h
  exact loadAt_c ho (opnd_c G ho.ts hy) h
 ·split at h
  ·rename_i hx
   exact storeAt_c ho (opv_c G ho.ts hx) h
  ·cases h
 ·split at h
  ·rename_i s o _;exact pr (x := .lp s o) trivial h
  ·rename_i hx;exact pr (opnd_c G ho.ts hx) h
  ·rename_i hx;exact pr (opnd_c G ho.ts hx) h
  ·rename_i hx;exact pr (opnd_c G ho.ts hx) h
  ·cases h
 ·split at h
  ·exact ofO_c ho (fun y hy=>binE_c hy) h
  ·cases h
 ·split at h
  ·exact ofO_c ho (fun y hy=>unE_c hy) h
  ·cases h
 ·split at h
  ·exact convE_c ho h
  ·cases h
 ·split at h
  ·rename_i hx
   split at h
   ·cases h
   ·refine ofO_c ho (fun y hy => ?_) h
    cases hy
    rw [cloA];exact opv_c G ho.ts hx
  ·cases h
 ·split at h
  ·rename_i hx hy
   refine ofO_c ho (fun y hy' => ?_) h
   cases hy'
   rw [cloA,Bool.and_eq_true]
   exact ⟨mapO_c (fun z _ y hz=>opv_c G ho.ts hz) hx,mapO_c (fun z _ y hz=>opv_c G ho.ts hz) hy⟩
  ·cases h
 ·split at h
  ·split at h
   ·cases h
   rename_i hei
   simp only [cond_eq_ite] at h
   split at h
   ·exact newBlk_c ho (zeros_c (G.ty _ _ hei _) _) (by simp [cloA]) h
   ·cases h
  ·cases h
 ·split at h
  ·rename_i hx _ _ _
   simp only [Option.map_eq_some_iff] at h
   obtain ⟨y,hy,rfl⟩:=h
   exact okR ho (sliceE_c (opnd_c G ho.ts hx) hy)
  ·cases h
 ·split at h
  ·rename_i hx
   simp only [Option.bind_eq_some_iff] at h
   obtain ⟨y,hy,h⟩:=h
   exact pr (fieldAddr_c (opnd_c G ho.ts hx) hy) h
  ·cases h
 ·split at h
  ·rename_i hx
   split at h
   ·refine ofO_c ho (fun y hy => ?_) h
    have:=opv_c G ho.ts hx
    rw [cloA] at this
    exact part_c this hy
   ·cases h
  ·cases h
 ·split at h
  ·rename_i hx _
   simp only [Option.bind_eq_some_iff] at h
   obtain ⟨y,hy,h⟩:=h
   exact pr (indexAddr_c (opnd_c G ho.ts hx) hy) h
  ·cases h
 ·split at h
  ·rename_i hx _
   exact ofO_c ho (fun y hy=>indexE_c (opv_c G ho.ts hx) hy) h
  ·cases h
 ·split at h
  ·rename_i hx
   refine ofO_c ho (fun y hy => ?_) h
   have:=opv_c G ho.ts hx
   rw [cloA] at this
   exact cloAs_get this hy
  ·cases h
 ·split at h
  ·exact rangeE_c ho h
  ·cases h
 ·split at h
  ·exact nextE_c ho h
  ·cases h
 ·exact makeMapE_c ho h
 ·split at h
  ·rename_i hx
   exact mapUpdateE_c ho (opv_c G ho.ts hx) h
  ·cases h
 ·split at h
  ·exact lookupE_c G ho h
  ·cases h
 ·split at h
  ·cases h
  rename_i args hargs
  have hac:cloAs st.hp.length args=true:=mapO_c (fun z _ y hz=>opv_c G ho.ts hz) hargs
  split at h
  ·exact builtinE_c G ho hac h
  ·split at h
   ·rename_i hf
    have hfc:=opv_c G ho.ts hf
    rw [cloA,Bool.and_eq_true] at hfc
    exact callE_c hcall ho (cloAs_app.2 ⟨cloAs_app.2 ⟨hfc.1,hac⟩,hfc.2⟩) h
   ·cases h
  ·cases h
 ·cases h
theorem put_c {n:Nat} {ts ts':List TV} {d:Option Tmp} {x:TV} (h:TsC n ts) (hx:tvC n x) (hp:put ts d x=some ts'):TsC n ts':=by
 unfold put at hp
 split at hp
 ·split at hp
  ·cases hp
  ·cases hp;exact h.set hx
  ·cases hp
 ·cases hp;exact h
def OkT (st st':St):Prop:=OkS st'∧st.hp.length≤st'.hp.length
include G in
theorem evOne_c {call:CallF} (hcall:CallC call) {fl:Nat} {me:FuncId} {ops:List Oper} {o:Oper} {st:St} (ho:OkS st) {r:St × Fp} (h:evOne C call fl me ops o st=some r):OkT st r.1:=by
 unfold evOne at h
 split at h
 ·split at h
  ·rename_i q hq
   obtain ⟨h1,h2,h3,h4⟩:=evOp_c G hcall ho hq
   split at h
   ·rename_i t ht
    cases h
    exact ⟨⟨put_c h2 h1 ht,h3⟩,h4⟩
   ·cases h
  ·cases h
 ·split at h
  ·rename_i t ht
   cases h
   exact ⟨⟨put_c (x := .sk) ho.ts trivial ht,ho.hp⟩,Nat.le_refl _⟩
  ·cases h
 ·cases h
include G in
theorem runOps_c {call:CallF} (hcall:CallC call) {fl:Nat} {me:FuncId} {ops:List Oper}:∀ (l:List Oper) {st:St},OkS st→∀ {r:St × List Fp},runOps C call fl me ops l st=some r→OkT st r.1
 | [],st,ho,r,h=>by cases h;exact ⟨ho,Nat.le_refl _⟩
 | o::l,st,ho,r,h=>by
  unfold runOps at h
  split at h
  ·rename_i st1 f h1
   have a:=evOne_c G hcall ho h1
   split at h
   ·rename_i st' fps h2
    cases h
    have b:=runOps_c hcall l a.1 h2
    exact ⟨b.1,Nat.le_trans a.2 b.2⟩
   ·cases h
  ·cases h
theorem cleanT_c {n:Nat}:∀ {ts:List TV} (m:Nat),TsC n ts→TsC n (cleanT ts m)
 | [],_,h=>h
 | x::ts,m,h=>by
  intro y hy
  unfold cleanT at hy
  rcases List.mem_cons.1 hy with rfl | hy
  ·simp only [cond_eq_ite]
   split
   ·split
    ·trivial
    ·exact h x (by simp)
   ·trivial
  ·exact cleanT_c _ (fun z hz=>h z (by simp [hz])) y hy
theorem clean_c {m:Option Nat} {st:St} (h:OkS st):OkS (cleanSt m st):=by
 unfold cleanSt
 split
 ·exact h
 ·exact ⟨cleanT_c _ h.ts,h.hp⟩
theorem clean_hp {m:Option Nat} {st:St}:(cleanSt m st).hp=st.hp:=by unfold cleanSt;split <;> rfl
theorem evLoop_c {b:St→Option (Ex × St)} {m:Option Nat} (hb:∀ {st:St} {e:Ex} {st':St},OkS st→b st=some (e,st')→OkT st st'):∀ (k:Nat) {st st':St} {e:Ex},OkS st→evLoop b (cleanSt m) k st=some (e,st')→OkT st st'
 | 0,_,_,_,_,h=>by cases h
 | k + 1,st,st',e,ho,h=>by
  unfold evLoop at h
  split at h
  ·rename_i st1 h1
   have a:=hb (clean_c ho) h1
   have c:=evLoop_c hb k a.1 h
   refine ⟨c.1,Nat.le_trans ?_ c.2⟩
   have:=a.2
   rwa [clean_hp] at this
  ·have a:=hb (clean_c ho) h
   have:=a.2
   rw [clean_hp] at this
   exact ⟨a.1,this⟩
include G in
theorem run_c {call:CallF} (hcall:CallC call) {fl:Nat} {me:FuncId} {k:Nat}:∀ (c:Code) {st st':St} {e:Ex},OkS st→run C call fl me k c st=some (e,st')→OkT st st'
 | .skip,st,st',e,ho,h=>by simp only [run,Option.some.injEq,Prod.mk.injEq] at h;rw [← h.2];exact ⟨ho,Nat.le_refl _⟩
 | .exit id,st,st',e,ho,h=>by simp only [run,Option.some.injEq,Prod.mk.injEq] at h;rw [← h.2];exact ⟨ho,Nat.le_refl _⟩
 | .ret,st,st',e,ho,h=>by simp only [run,Option.some.injEq,Prod.mk.injEq] at h;rw [← h.2];exact ⟨ho,Nat.le_refl _⟩
 | .region id ops draw,st,st',e,ho,h=>by
  simp only [run,cond_eq_ite] at h
  split at h
  ·rename_i h1
   split at h
   ·cases h
    exact runOps_c G hcall _ ho h1
   ·cases h
  ·cases h
 | .seq x y,st,st',e,ho,h=>by
  simp only [run] at h
  split at h
  ·rename_i st1 h1
   have a:=run_c hcall x ho h1
   have b:=run_c hcall y a.1 h
   exact ⟨b.1,Nat.le_trans a.2 b.2⟩
  ·exact run_c hcall x ho h
 | .cond t x y,st,st',e,ho,h=>by
  simp only [run] at h
  split at h
  ·rename_i b hb
   cases b
   ·exact run_c hcall y ho h
   ·exact run_c hcall x ho h
  ·cases h
 | .block id x,st,st',e,ho,h=>by
  simp only [run] at h
  split at h
  ·rename_i j st1 h1
   have a:=run_c hcall x ho h1
   simp only [cond_eq_ite] at h
   split at h <;> (cases h;exact a)
  ·exact run_c hcall x ho h
 | .loop x,st,st',e,ho,h=>by
  simp only [run] at h
  split at h
  ·rename_i q st1 h1
   cases h
   have a:=evLoop_c (fun ho h=>run_c hcall x ho h) _ ho h1
   exact ⟨clean_c a.1,by rw [clean_hp];exact a.2⟩
  ·cases h
 | .rangeFunc ..,st,st',e,_,h=>by simp [run] at h
 | .scope ..,st,st',e,_,h=>by simp [run] at h
 | .label ..,st,st',e,_,h=>by simp [run] at h
include G in
theorem results_c {st:St} (ho:OkS st):∀ {rv:List ResultVar} {rs:List AV},resultsE C st rv=some rs→cloAs st.hp.length rs=true
 | [],rs,h=>by cases h;rfl
 | .tmp t::rv,rs,h=>by
  simp only [resultsE] at h
  split at h
  ·rename_i x hx
   split at h
   ·rename_i xs hxs
    cases h
    rw [cloAs,Bool.and_eq_true]
    exact ⟨get_c ho.ts hx,results_c ho hxs⟩
   ·cases h
  ·cases h
 | .cell a t::rv,rs,h=>by
  simp only [resultsE] at h
  split at h
  ·rename_i tv htv
   split at h
   ·rename_i x t' hp' fp' hl
    split at h
    ·rename_i xs hxs
     cases h
     rw [cloAs,Bool.and_eq_true]
     have a:=loadAt_c ho (opnd_c G ho.ts htv) hl
     refine ⟨?_,results_c ho hxs⟩
     have hh:hp'=st.hp:=by
      unfold loadAt at hl
      simp only [ofO] at hl
      repeat' (first | (cases hl;done) | (cases hl;rfl) | (simp only [Option.map_eq_some_iff] at hl;obtain ⟨_,_,hl⟩:=hl;cases hl;rfl) | split at hl)
     have:=a.val
     rw [hh] at this
     exact this
    ·cases h
   ·cases h
  ·cases h
theorem one_c {n:Nat} {rs:List AV} (h:cloAs n rs=true):cloA n (one rs)=true:=by
 match rs with
 | []=>rfl
 | [x]=>simpa [cloAs,one] using h
 | x::y::rs=>exact h
theorem shut_c {n:Nat} {hp:List Blk}:∀ (d:Nat) (v w:AV),shutV hp n d v=some w→cloA n w=true
 | 0,_,_,h=>by cases h
 | d + 1,v,w,h=>by
  have ih:=shut_c (n:=n) (hp:=hp) d
  have al:∀ {xs ys:List AV},mapO (shutV hp n d) xs=some ys→cloAs n ys=true:=fun hx=>mapO_c (fun x _ y hy=>ih x y hy) hx
  unfold shutV at h
  simp only [cond_eq_ite] at h
  split at h
  ·split at h
   ·rename_i hb
    cases h
    rw [cloA];exact hb
   ·cases h
  ·split at h
   ·rename_i hb
    cases h
    rw [cloA];exact hb
   ·cases h
  ·simp only [Option.map_eq_some_iff] at h
   obtain ⟨y,hy,rfl⟩:=h
   rw [cloA];exact ih _ _ hy
  ·split at h
   ·rename_i hx
    cases h
    rw [cloA,Bool.and_eq_true]
    refine ⟨?_,al hx⟩
    split
    ·split
     ·assumption
     ·rfl
    ·rename_i hne
     unfold ownC
     split
     ·exact (hne _ _ rfl).elim
     ·rfl
   ·cases h
  ·split at h
   ·rename_i hb
    cases h
    rw [cloA];exact hb
   ·split at h
    ·simp only [Option.map_eq_some_iff] at h
     obtain ⟨y,hy,rfl⟩:=h
     rw [cloA,Bool.and_eq_true]
     exact ⟨rfl,al hy⟩
    ·cases h
  ·split at h
   ·rename_i hx hy
    cases h
    rw [cloA,Bool.and_eq_true]
    exact ⟨al hx,al hy⟩
   ·cases h
  ·simp only [Option.map_eq_some_iff] at h
   obtain ⟨y,hy,rfl⟩:=h
   rw [cloA];exact ih _ _ hy
  ·simp only [Option.map_eq_some_iff] at h
   obtain ⟨y,hy,rfl⟩:=h
   exact al hy
  ·simp only [Option.map_eq_some_iff] at h
   obtain ⟨y,hy,rfl⟩:=h
   exact al hy
  ·cases h
   cases v with
   | bool | int | str | nilP | nilS | nilF | nilI | nilM=>rfl
   | ptr b o=>rename_i h1 _ _ _ _ _ _ _ _;exact absurd rfl (h1 _ _)
   | mpr b=>rename_i _ h1 _ _ _ _ _ _ _;exact absurd rfl (h1 _)
   | arr sz b off len=>rename_i _ _ _ _ h1 _ _ _ _;exact (h1 _ _ _ _ rfl).elim
   | _=>simp_all
mutual
theorem cloA_sh {n k:Nat}:∀ (v:AV),cloA k v=true→cloA (n + k) (shA n v)=true
 | .ptr b o,h=>by simp only [cloA,shA,decide_eq_true_eq] at *;omega
 | .mpr b,h=>by simp only [cloA,shA,decide_eq_true_eq] at *;omega
 | .rop x,h=>by rw [cloA] at h;rw [shA,cloA];exact cloA_sh x h
 | .lit sz own xs,h=>by
  rw [cloA,Bool.and_eq_true] at h
  rw [shA,cloA,Bool.and_eq_true]
  refine ⟨?_,cloAs_sh xs h.2⟩
  have h1:=h.1
  cases own with
  | fam g s=>simp only [shO,ownC,decide_eq_true_eq] at *;omega
  | _=>rfl
 | .arr sz b o l,h=>by simp only [cloA,shA,decide_eq_true_eq] at *;omega
 | .fn f a b,h=>by rw [cloA,Bool.and_eq_true] at h;rw [shA,cloA,Bool.and_eq_true];exact ⟨cloAs_sh a h.1,cloAs_sh b h.2⟩
 | .iface t x,h=>by rw [cloA] at h;rw [shA,cloA];exact cloA_sh x h
 | .agg cs,h=>by rw [cloA] at h;rw [shA,cloA];exact cloAs_sh cs h
 | .tup cs,h=>by rw [cloA] at h;rw [shA,cloA];exact cloAs_sh cs h
 | .bool b,_=>rfl
 | .int k i,_=>rfl
 | .str s,_=>rfl
 | .nilP,_=>rfl
 | .nilS,_=>rfl
 | .nilF,_=>rfl
 | .nilI,_=>rfl
 | .nilM,_=>rfl
theorem cloAs_sh {n k:Nat}:∀ (xs:List AV),cloAs k xs=true→cloAs (n + k) (shAs n xs)=true
 | [],_=>rfl
 | x::xs,h=>by rw [cloAs,Bool.and_eq_true] at h;rw [shAs,cloAs,Bool.and_eq_true];exact ⟨cloA_sh x h.1,cloAs_sh xs h.2⟩
end
theorem cloB_sh {n k:Nat}:∀ (b:Blk),cloB k b=true→cloB (n + k) (shB n b)=true
 | .cells cs,h=>cloAs_sh cs h
 | .dead,_=>rfl
 | .fam _,_=>rfl
 | .obj (.sit _ _),_=>rfl
 | .obj (.mp es),h=>by
  have h:cloAs k (es.map fun e:List UInt8 × AV=>e.2)=true:=h
  show cloAs (n + k) ((es.map fun e:List UInt8 × AV=>(e.1,shA n e.2)).map fun e=>e.2)=true
  rw [cloAs_mem] at *
  intro x hx
  simp only [List.map_map,List.mem_map,Function.comp] at hx
  obtain ⟨e,he,rfl⟩:=hx
  exact cloA_sh _ (h _ (List.mem_map.2 ⟨e,he,rfl⟩))
theorem memo_c {hp:List Blk} {r:AV × List Blk} (h:cloA r.2.length r.1=true∧cloH r.2.length r.2=true) (hh:cloH hp.length hp=true):cloA (hp++r.2.map (shB hp.length)).length (shA hp.length r.1)=true∧cloH (hp++r.2.map (shB hp.length)).length (hp++r.2.map (shB hp.length))=true∧hp.length≤(hp++r.2.map (shB hp.length)).length:=by
 have e:(hp++r.2.map (shB hp.length)).length=hp.length + r.2.length:=by simp
 rw [e]
 refine ⟨cloA_sh _ h.1, ?_,by omega⟩
 unfold cloH
 rw [List.all_append,Bool.and_eq_true]
 refine ⟨cloH_mono (by omega) hh, ?_⟩
 rw [List.all_eq_true]
 intro b hb
 obtain ⟨c,hc,rfl⟩:=List.mem_map.1 hb
 have:=h.2
 unfold cloH at this
 exact cloB_sh _ (List.all_eq_true.1 this c hc)
theorem insE_c {fl:Nat} {f:FuncId} {args:List AV} {hp hp':List Blk} {v:AV} (h:insE C fl f args hp=some (v,hp')) (ha:cloAs hp.length args=true) (hh:cloH hp.length hp=true):cloA hp'.length v=true∧cloH hp'.length hp'=true∧hp.length≤hp'.length:=by
 unfold insE at h
 simp only [cond_eq_ite] at h
 split at h
 ·rename_i sz by' s i s' own x h1 h2
  simp only [cloAs,Bool.and_eq_true] at ha
  obtain ⟨ha1,_,ha3,_⟩:=ha
  rw [cloA,Bool.and_eq_true] at ha3
  have hx:=ha3.2
  simp only [cloAs,Bool.and_true] at hx
  have hxc:cloAs hp.length x.cells=true:=by rw [cloAs_cells];exact hx
  split at h
  ·cases h
  ·split at h
   ·split at h
    ·cases h
     have e:(hp++[Blk.cells x.cells]).length=hp.length + 1:=by simp
     rw [e]
     exact ⟨by simp [cloA],cloH_app (cloH_mono (by omega) hh) (cloAs_mono (by omega) _ hxc),by omega⟩
    ·cases h
   ·split at h
    ·rename_i cs hcs
     split at h
     ·cases h
      have e:∀ (k:Nat) (z:List AV),(setAt hp k Blk.dead++[Blk.cells z]).length=hp.length + 1:=fun k z=>by simp [setAt_length]
      rw [e]
      have hc:=blkCells_c hh hcs
      exact ⟨by simp [cloA],cloH_app (cloH_mono (by omega) (cloH_setB hh rfl)) (cloAs_mono (by omega) _ (cloAs_app.2 ⟨cloAs_take hc,cloAs_app.2 ⟨hxc,cloAs_drop hc⟩⟩)),by omega⟩
     ·cases h
    ·cases h
   ·cases h
 ·cases h
include G in
theorem evCall_c:∀ (k fl:Nat),CallC (evCall C k fl)
 | 0,_=>fun f args hp v hp' h _ _=>by cases h
 | k + 1,fl=>fun f args hp v hp' h ha hh=>by
  unfold evCall at h
  split at h
  ·rename_i r hr
   cases h
   exact memo_c (G.memo _ _ _ hr) hh
  split at h
  ·rename_i e he
   simp only [Option.map_eq_some_iff] at h
   obtain ⟨v',hv,h⟩:=h
   cases h
   exact ⟨G.ext _ _ he _ _ _ _ hv ha hh,hh,Nat.le_refl _⟩
  ·split at h
   ·exact insE_c h ha hh
   ·rename_i fi hfi
    dsimp only at h
    split at h
    ·cases h
    ·rename_i e st' hne hrun
     have hts:TsC hp.length (args.map TV.v++List.replicate (fi.ntmps - args.length) TV.sk):=fun x hx=>by
      rcases List.mem_append.1 hx with hx | hx
      ·obtain ⟨y,hy,rfl⟩:=List.mem_map.1 hx
       exact cloAs_mem.1 ha y hy
      ·rw [List.eq_of_mem_replicate hx];trivial
     have a:=run_c G (evCall_c k _) _ (st:=⟨_,hp⟩) ⟨hts,hh⟩ hrun
     split at h
     ·cases h
     ·rename_i rs hrs
      have hr:=one_c (results_c G a.1 hrs)
      split at h
      ·split at h
       ·rename_i w hw
        cases h
        exact ⟨shut_c _ _ _ hw,hh,Nat.le_refl _⟩
       ·cases h
      ·simp only [cond_eq_ite] at h
       split at h
       ·cases h
       ·rename_i hcl
        split at h
        ·rename_i w hw
         cases h
         have hl:(st'.hp.take hp.length).length=hp.length:=by
          have:hp.length≤st'.hp.length:=a.2
          simp;omega
         rw [hl]
         exact ⟨shut_c _ _ _ hw,by simpa using hcl,Nat.le_refl _⟩
        ·cases h
      ·cases h
       exact ⟨hr,a.1.hp,a.2⟩
      ·cases h
       exact ⟨hr,a.1.hp,a.2⟩
    ·cases h
include G in
theorem evI_c {fl:Nat} {f:FuncId} {args:List AV} {hp hp':List Blk} {v:AV} (h:evI C fl f args hp=some (v,hp')) (ha:cloAs hp.length args=true) (hh:cloH hp.length hp=true):cloA hp'.length v=true∧cloH hp'.length hp'=true∧hp.length≤hp'.length:=by
 unfold evI at h
 split at h
 ·exact evCall_c G _ _ _ _ _ _ _ h ha hh
 ·cases h
end
section
variable {P:Program} {C:Cfg}
def ExtC (e:List AV→Option AV):Prop:=∀ args v n,e args=some v→cloAs n args=true→cloA n v=true
def ExtHC (e:List Blk→List AV→Option AV):Prop:=∀ hp args v n,e hp args=some v→cloAs n args=true→cloH n hp=true→cloA n v=true
theorem ext_h {ext:FuncId→Option (List AV→Option AV)} {extH:FuncId→Option (List Blk→List AV→Option AV)} (h:∀ f e,ext f=some e→ExtC e) (k:∀ f e,extH f=some e→ExtHC e) (f:FuncId) (e:List Blk→List AV→Option AV) (he:(match ext f with | some e=>some fun _=>e | none=>extH f)=some e):ExtHC e:=by
 split at he
 ·rename_i e' h1
  cases he
  exact fun _ args v n h2 h3 _=>h f e' h1 args v n h2 h3
 ·exact k f e he
theorem ix_c:ExtC extIx:=fun args v n h _=>by
 unfold extIx at h
 simp only [cond_eq_ite] at h
 repeat' (first | (cases h;done) | (cases h;rfl) | split at h)
theorem fmt_c:ExtC extFmt:=fun args v n h _=>by
 unfold extFmt at h
 simp only [cond_eq_ite] at h
 repeat' (first | (cases h;done) | (cases h;rfl) | split at h)
theorem pi_c {T:TypeId} {eS eR:AV} (hS:∀ n,cloA n eS=true) (hR:∀ n,cloA n eR=true):ExtC (extPI T eS eR):=fun args v n h _=>by
 unfold extPI at h
 simp only [cond_eq_ite] at h
 repeat' (first | (cases h;done) | split at h)
 all_goals (cases h;simp [cloA,cloAs,hS,hR])
theorem tab_c {k:IntKind} {zs:List Int} {n:Nat}:cloA n (tabAV k zs)=true:=by
 unfold tabAV
 rw [cloA,cloAs_mem]
 intro x hx
 obtain ⟨z,_,rfl⟩:=List.mem_map.1 hx
 rfl
theorem ty_c {t:TypeId} {ti:TI} (h:TyOK P t ti) (n:Nat):cloAs n ti.zero=true:=by
 obtain ⟨i,d,z,_,_,_,_,_,_,hzs,_⟩:=h
 exact mapO_c (fun v _ y hy=>ofConst_c _ v y hy) hzs
theorem good_of (hT:TysOK P C) (hg:∀ g v,C.glob g=some v→∀ n,cloA n v=true) (he:∀ f e,C.ext f=some e→ExtHC e) (hm:∀ f args r,C.memo f args=some r→cloA r.2.length r.1=true∧cloH r.2.length r.2=true:=by intro f args r h;cases h):GoodC C:=⟨fun t ti h=>ty_c (hT t ti h),hg,hm,he⟩
theorem evI_fl {fl fl':Nat} {f:FuncId} {a:List AV} {h:List Blk} (hk:C.kind f = .pure∨C.kind f = .new) {r:AV × List Blk} (e:evI C fl f a h=some r):evI C fl' f a h=some r:=by
 have key:∀ k,evCall C k fl f a h=evCall C k fl' f a h:=fun k=>by
  cases k with
  | zero=>rfl
  | succ k =>
   unfold evCall
   rcases hk with hk | hk <;> simp only [hk,insE]
 unfold evI at e
 split at e
 ·rename_i H
  rw [key] at e
  exact evI_of e
 ·cases e
end
section
abbrev Jn (n:Nat):List TV:=List.replicate n TV.junk
variable {C:Cfg}
abbrev bytesV (s:List UInt8):List AV:=s.map fun c=>AV.int .u8 (c.toNat:Int)
end
end Go.Proofs.YtgbheglnmdnkoaaGreatDoor.E
namespace Go.Proofs.YtgbheglnmdnkoaaGreatDoor.E
open Go Go.RowKit Go.Lib Go.Sort Go.Maps Go.WideMaps
section
variable {P:Program} {C:Cfg}
end
end Go.Proofs.YtgbheglnmdnkoaaGreatDoor.E
namespace Go.Proofs.YtgbheglnmdnkoaaGreatDoor.E
open Go Go.RowKit Go.Lib
section
variable {P:Program} {C:Cfg}
def cmpS:List UInt8→List UInt8→Int
 | [],[]=>0
 | [],_::_ => -1
 | _::_,[]=>1
 | a::l,b::m=>bif Nat.blt a.toNat b.toNat then -1 else bif Nat.blt b.toNat a.toNat then 1 else cmpS l m
theorem cmpS_eq:∀ (a b:List UInt8),cmpS a b=Lib.compareBytes a b
 | [],[]=>rfl
 | [],_::_=>rfl
 | _::_,[]=>rfl
 | a::l,b::m=>by
  have ih:=cmpS_eq l m
  unfold cmpS Lib.compareBytes
  rw [ih]
  by_cases h1:a.toNat < b.toNat
  ·have e1:Nat.blt a.toNat b.toNat=true:=Nat.ble_eq_true_of_le h1
   have e2:a < b:=h1
   simp [e1,e2]
  ·have e1:Nat.blt a.toNat b.toNat=false:=by
    rw [Bool.eq_false_iff];intro h;exact h1 (Nat.le_of_ble_eq_true h)
   have e2:¬ a < b:=h1
   by_cases h3:b.toNat < a.toNat
   ·have e3:Nat.blt b.toNat a.toNat=true:=Nat.ble_eq_true_of_le h3
    have e4:b < a:=h3
    simp [e1,e2,e3,e4]
   ·have e3:Nat.blt b.toNat a.toNat=false:=by
     rw [Bool.eq_false_iff];intro h;exact h3 (Nat.le_of_ble_eq_true h)
    have e4:¬ b < a:=h3
    simp [e1,e2,e3,e4]
def extCmp:List AV→Option AV
 | [.str a, .str b]=>some (.int .i64 (cmpS a b))
 | _=>none
theorem extCmp_ok {f : FuncId} {fn : Func} (hf : P.funcs[f]? = some fn) (hname : (fn.name == "runtime.NumGoroutine") = false) (hb : fn.body.isNone = true) (hn : Extern.findNext fn = none) (he : Extern.find fn = some Extern.BytealgCompare.compare)
  (args:List AV) (v:AV) (hp:List Blk) (hv:extCmp args=some v) (B:Nat) (w0:World) (L:Lay) (w:World) (rargs:List Value) (hI:Inv C.glob B w0 L w hp) (hA:CR hp.length L w args rargs) :
  FCalls P f rargs.toArray w (CallPost C B w0 L w hp.length v hp):=by
 unfold extCmp at hv
 split at hv
 ·rename_i s c
  cases hv
  obtain ⟨hl,hA⟩:=hA
  obtain ⟨r0,r1,rfl⟩:∃ r0 r1,rargs=[r0,r1]:=by
   match rargs,hl with
   | [a,b],_=>exact ⟨a,b,rfl⟩
  have h0:=hA 0 _ r0 rfl rfl
  have h1:=hA 1 _ r1 rfl rfl
  cases h0 with | str _ bs hs => ?_
  cases h1 with | str _ bc hc => ?_
  unfold FCalls
  rw [run_callFunc_extern hf hname hb hn he,Lib.run_compareString]
  simp only [Result.andThen]
  refine grow_post hI (Below.refl _ _) ?_
  rw [hs,hc,← cmpS_eq]
  exact .int _ _
 ·cases hv
theorem cmp_c:ExtC extCmp:=fun args v n h _=>by
 unfold extCmp at h
 split at h
 ·cases h;rfl
 ·cases h
end
end Go.Proofs.YtgbheglnmdnkoaaGreatDoor.E
/- What a call came to in an empty heap it comes to behind any heap. -/
namespace Go.Proofs.YtgbheglnmdnkoaaGreatDoor.E
open Go Go.RowKit Go.Lib
variable {P : Program} {C : Cfg}

/-- a lay in which the heap's blocks are forgotten -/
def lay0L (L : Lay) : Lay where
  loc _ := none
  ext := L.ext
  fam _ := none
  who r o := match L.who r o with
    | .imm => .imm
    | _ => .none
theorem lay0_imm {L : Lay} {r o : Nat} : (lay0L L).who r o = .imm ↔ L.who r o = .imm := by
  unfold lay0L
  dsimp only
  split
  · rename_i h; simp [h]
  · rename_i h; exact ⟨fun e => (by cases e), fun e => absurd e h⟩
theorem lay0_non {L : Lay} {r o : Nat} (h : L.who r o ≠ .imm) : (lay0L L).who r o = .none := by
  unfold lay0L
  dsimp only
  split
  · rename_i e; exact absurd e h
  · rfl
theorem lay0_or {L : Lay} {r o : Nat} : (lay0L L).who r o = .imm ∨ (lay0L L).who r o = .none := by
  by_cases h : L.who r o = .imm
  · exact .inl (lay0_imm.2 h)
  · exact .inr (lay0_non h)
theorem inv_forget {glob : Nat → Option AV} {B : Nat} {w0 : World} {L : Lay} {w : World} {hp : List Blk} (h : Inv glob B w0 L w hp) : Inv glob w.heap.size w (lay0L L) w [] := by
  refine ⟨Below.refl _ _, Nat.le_refl _, fun b cs hb => by simp at hb, fun r o b hr => ?_, fun g m hm => by simp at hm, fun r o g hr => ?_, fun r o hr => ?_, fun _ _ => rfl, fun _ _ => rfl, fun g v hg => ?_, ⟨fun b o hb => by simp at hb, fun b c o q r hb => by simp at hb⟩, fun g v hg => ?_⟩
  · rcases lay0_or (L := L) (r := r) (o := o) with e | e <;> rw [e] at hr <;> cases hr
  · rcases lay0_or (L := L) (r := r) (o := o) with e | e <;> rw [e] at hr <;> cases hr
  · exact lay0_non (by rw [h.fresh r o hr]; simp)
  · have hv := h.globs g v hg
    have : ∀ {x : AV} {u : Value}, VR 0 L w x u → VR 0 (lay0L L) w x u := fun {x u} hx => by
      refine hx.mono (Nat.le_refl _) ⟨fun r o hr => ⟨lay0_imm.2 hr, rfl⟩, fun b p hb => by omega, fun g F hg => by omega, Nat.le_refl _, fun _ _ _ => rfl, fun r o _ hr => lay0_non (by rw [hr]; simp)⟩
    exact this hv
  · obtain ⟨h1, cs, t, q, h2, h3⟩ := h.kept g v hg
    have hlt : g < w.heap.size := Nat.lt_of_lt_of_le h1 h.size
    have hb := h.below.block g h1
    exact ⟨hlt, cs, t, q, hb.trans h2, h3⟩
theorem vr0 {n : Nat} {L : Lay} {w : World} {x : AV} {u : Value} (hx : VR n L w x u) (hc : cloA 0 x = true) : VR 0 (lay0L L) w x u := by
  obtain ⟨d, hd⟩ := cloA_fuel x hc
  have := clo_ok d x hd _ hx
  exact this.mono (Nat.le_refl _) ⟨fun r o hr => ⟨lay0_imm.2 hr, rfl⟩, fun b p hb => by omega, fun g F hg => by omega, Nat.le_refl _, fun _ _ _ => rfl, fun r o _ hr => lay0_non (by rw [hr]; simp)⟩

/-- the two lays, one behind the other: s: where the new cells begin; n: how many blocks there were -/
def glueL (s n : Nat) (L L1 : Lay) : Lay where
  loc b := if b < n then L.loc b else L1.loc (b - n)
  ext b := if b < n then L.ext b else L1.ext (b - n)
  fam b := if b < n then L.fam b else L1.fam (b - n)
  who r o := if r < s then L.who r o else match L1.who r o with
    | .blk b => .blk (n + b)
    | .spare g => .spare (n + g)
    | x => x
theorem shAs_map (n : Nat) : ∀ xs : List AV, shAs n xs = xs.map (shA n)
  | [] => rfl
  | x :: xs => by rw [shAs, shAs_map n xs]; rfl
theorem shA_cells {n : Nat} : ∀ x : AV, (shA n x).cells = shAs n x.cells
  | .agg cs => by rw [shA]; rfl
  | .bool _ | .int _ _ | .str _ | .nilP | .ptr _ _ | .rop _ | .nilS | .lit _ _ _ | .arr _ _ _ _ | .fn _ _ _ | .nilF | .iface _ _ | .nilI | .tup _ | .nilM | .mpr _ => by simp [shA, AV.cells, shAs]
theorem shA_one {n : Nat} : ∀ x : AV, (shA n x).one = x.one
  | .agg cs => by rw [shA]; rfl
  | .bool _ | .int _ _ | .str _ | .nilP | .ptr _ _ | .rop _ | .nilS | .lit _ _ _ | .arr _ _ _ _ | .fn _ _ _ | .nilF | .iface _ _ | .nilI | .tup _ | .nilM | .mpr _ => by simp [shA, AV.one]
theorem shA_noTup {n : Nat} : ∀ x : AV, (shA n x).noTup = x.noTup
  | .tup cs => by rw [shA]; rfl
  | .bool _ | .int _ _ | .str _ | .nilP | .ptr _ _ | .rop _ | .nilS | .lit _ _ _ | .arr _ _ _ _ | .fn _ _ _ | .nilF | .iface _ _ | .nilI | .agg _ | .nilM | .mpr _ => by simp [shA, AV.noTup]
theorem flat_sh {n : Nat} : ∀ xs : List AV, flat (shAs n xs) = shAs n (flat xs)
  | [] => rfl
  | x :: xs => by
    have happ : ∀ (a b : List AV), shAs n (a ++ b) = shAs n a ++ shAs n b := fun a b => by simp [shAs_map]
    rw [shAs, flat, flat, shA_cells, flat_sh xs, happ]
theorem shAs_get {n i : Nat} {xs : List AV} {x : AV} (h : (shAs n xs)[i]? = some x) : ∃ y, xs[i]? = some y ∧ x = shA n y := by
  rw [shAs_map, List.getElem?_map, Option.map_eq_some_iff] at h
  obtain ⟨y, h1, h2⟩ := h
  exact ⟨y, h1, h2.symm⟩
theorem shAs_len {n : Nat} {xs : List AV} : (shAs n xs).length = xs.length := by rw [shAs_map, List.length_map]

section
variable {s n n1 : Nat} {L L1 : Lay} {w' : World}
/-- what the new lay knows, the glued one knows -/
theorem vr_sh (hs : ∀ r o, L1.who r o = .imm → (glueL s n L L1).who r o = .imm) (hb : ∀ r o b, L1.who r o = .blk b → (glueL s n L L1).who r o = .blk (n + b)) {x : AV} {u : Value} (h : VR n1 L1 w' x u) : VR (n + n1) (glueL s n L L1) w' (shA n x) u := by
  have loc : ∀ b p, (glueL s n L L1).loc (n + b) = some p → L1.loc b = some p := fun b p hp => by
    have : (glueL s n L L1).loc (n + b) = L1.loc b := by simp [glueL]; omega
    rw [← this]; exact hp
  have ext : ∀ b, (glueL s n L L1).ext (n + b) = L1.ext b := fun b => by simp [glueL]; omega
  have fam : ∀ b, (glueL s n L L1).fam (n + b) = L1.fam b := fun b => by simp [glueL]; omega
  induction h with
  | bool b => rw [shA]; exact .bool b; all_goals simp
  | int k i => rw [shA]; exact .int k i; all_goals simp
  | str l t ht => rw [shA]; exact .str l t ht; all_goals simp
  | nilP => rw [shA]; exact .nilP; all_goals simp
  | ptr b off a hb' ha => rw [shA]; exact .ptr _ off a (by omega) fun p hp => ha p (loc b p hp)
  | rop v rb ro cv h1 ho _ ih =>
    rw [shA]
    have hc := shA_cells (n := n) v
    refine .rop _ rb ro cv (fun j hj => ?_) (fun j c hj => ?_) (fun j c hj => ?_)
    · rw [hc, shAs_len] at hj
      exact ⟨(h1 j hj).1, hs _ _ (h1 j hj).2⟩
    · rw [hc] at hj
      obtain ⟨y, h2, rfl⟩ := shAs_get hj
      rw [shA_one]; exact ho j y h2
    · rw [hc] at hj
      obtain ⟨y, h2, rfl⟩ := shAs_get hj
      exact ih j y h2
  | nilS => rw [shA]; exact .nilS; all_goals simp
  | lit sz own xs rb ro cap cv hc hsz h1 ho _ hw ih =>
    rw [shA]
    have hl : (shAs n xs).length = xs.length := shAs_len
    have := VR.lit (n := n + n1) (L := glueL s n L L1) (w := w') sz (shO n own) (shAs n xs) rb ro cap cv (by rw [hl]; exact hc) (fun y hy => by
      rw [shAs_map] at hy
      obtain ⟨z, hz, rfl⟩ := List.mem_map.1 hy
      rw [shA_cells, shAs_len]; exact hsz z hz) (fun j hj => by rw [hl] at hj; exact ⟨(h1 j hj).1, hs _ _ (h1 j hj).2⟩) (fun j c hj => by
      rw [flat_sh] at hj
      obtain ⟨y, h2, rfl⟩ := shAs_get hj
      rw [shA_one]; exact ho j y h2) (fun j c hj => by
      rw [flat_sh] at hj
      obtain ⟨y, h2, rfl⟩ := shAs_get hj
      exact ih j y h2) (by
      cases own with
      | sealed => trivial
      | exact => rw [hl]; exact hw
      | fam g st =>
        rw [hl]
        exact ⟨by have := hw.1; omega, fun F hF => hw.2 F (by rw [← fam g]; exact hF)⟩)
    rw [hl] at this; exact this
  | lit0 sz own a hp =>
    rw [shA, shAs]
    exact .lit0 sz _ a (by cases own <;> first | exact hp | cases hp)
  | arr sz b off len a cap hb' hc ha =>
    rw [shA]
    refine .arr sz _ off len a cap (by omega) hc fun p hp => ?_
    obtain ⟨h1, h2, h3, h4⟩ := ha p (loc b p hp)
    exact ⟨h1, fun j hj => hb _ _ _ (h2 j hj), by rw [ext]; exact h3, h4⟩
  | fn f xs ys rx ry h1 h2 _ _ i1 i2 =>
    rw [shA]
    exact .fn f _ _ rx ry (by rw [shAs_len]; exact h1) (by rw [shAs_len]; exact h2) (fun i x hx => by
      obtain ⟨y, h3, rfl⟩ := shAs_get hx
      exact i1 i y h3) (fun i x hx => by
      obtain ⟨y, h3, rfl⟩ := shAs_get hx
      exact i2 i y h3)
  | nilF => rw [shA]; exact .nilF; all_goals simp
  | iface t x v _ ih => rw [shA]; exact .iface t _ v ih
  | nilI => rw [shA]; exact .nilI; all_goals simp
  | agg cs rc h ho _ ih =>
    rw [shA]
    exact .agg _ rc (by rw [shAs_len]; exact h) (fun i x hx => by
      obtain ⟨y, h3, rfl⟩ := shAs_get hx
      rw [shA_one]; exact ho i y h3) (fun i x hx => by
      obtain ⟨y, h3, rfl⟩ := shAs_get hx
      exact ih i y h3)
  | tup cs rc h _ ih =>
    rw [shA]
    exact .tup _ rc (by rw [shAs_len]; exact h) (fun i x hx => by
      obtain ⟨y, h3, rfl⟩ := shAs_get hx
      exact ih i y h3)
  | nilM => rw [shA]; exact .nilM; all_goals simp
  | mpr b r hb' hr => rw [shA]; exact .mpr _ r (by omega) fun p hp => hr p (loc b p hp)
end

theorem shB_cells {n : Nat} {b : Blk} {cs : List AV} (h : shB n b = .cells cs) : ∃ cs', b = .cells cs' ∧ cs = shAs n cs' := by
  cases b with
  | cells c => rw [shB] at h; cases h; exact ⟨c, rfl, rfl⟩
  | obj o => cases o <;> rw [shB] at h <;> first | cases h | (intro es he; cases he)
  | dead => rw [shB] at h; cases h; all_goals simp
  | fam m => rw [shB] at h; cases h; all_goals simp
theorem shB_fam {n : Nat} {b : Blk} {m : Nat} (h : shB n b = .fam m) : b = .fam m := by
  cases b with
  | cells c => rw [shB] at h; cases h
  | obj o => cases o <;> rw [shB] at h <;> first | cases h | (intro es he; cases he)
  | dead => rw [shB] at h; cases h; all_goals simp
  | fam k => rw [shB] at h; exact h; all_goals simp
def shOb (n : Nat) : Ob → Ob
  | .sit s p => .sit s p
  | .mp es => .mp (es.map fun e => (e.1, shA n e.2))
theorem shB_obj {n : Nat} {b : Blk} {o : Ob} (h : shB n b = .obj o) : ∃ o', b = .obj o' ∧ o = shOb n o' := by
  cases b with
  | cells c => rw [shB] at h; cases h
  | obj q =>
    cases q with
    | sit s p =>
      have h : Blk.obj (.sit s p) = .obj o := h
      cases h
      exact ⟨.sit s p, rfl, rfl⟩
    | mp es => rw [shB] at h; cases h; exact ⟨_, rfl, rfl⟩
  | dead => rw [shB] at h; cases h; all_goals simp
  | fam k => rw [shB] at h; cases h; all_goals simp
theorem app_get {hp h1 : List Blk} {n b : Nat} {x : Blk} (hn : hp.length = n) (h : (hp ++ h1.map (shB n))[b]? = some x) : (b < n ∧ hp[b]? = some x) ∨ (n ≤ b ∧ ∃ y, h1[b - n]? = some y ∧ x = shB n y) := by
  rcases Nat.lt_or_ge b n with hb | hb
  · rw [List.getElem?_append_left (by omega)] at h; exact .inl ⟨hb, h⟩
  · rw [List.getElem?_append_right (by omega), hn, List.getElem?_map, Option.map_eq_some_iff] at h
    obtain ⟨y, h2, h3⟩ := h
    exact .inr ⟨hb, y, h2, h3.symm⟩
/-- **A call that was carried out in an empty heap, behind any heap.** -/
theorem glue_post {B : Nat} {w0 : World} {L : Lay} {w : World} {hp : List Blk} (hI : Inv C.glob B w0 L w hp) {v : AV} {h1 : List Blk} {e : Ending} {w' : World} {C0 : Cfg} (hg : C0.glob = C.glob) (h : CallPost C0 w.heap.size w (lay0L L) w 0 v h1 e w') :
    CallPost C B w0 L w hp.length (shA hp.length v) (hp ++ h1.map (shB hp.length)) e w' := by
  obtain ⟨rv, L1, rfl, I1, E1, K1, S1, _, V1⟩ := h
  have hb : Below w.heap.size w w' := I1.below
  have Ig := inv_grow hI hb
  generalize hn : hp.length = n
  have hlen : (hp ++ h1.map (shB n)).length = n + h1.length := by simp [hn]
  have whoO : ∀ {r o : Nat}, r < w.heap.size → (glueL w.heap.size n L L1).who r o = L.who r o := fun {r o} hr => by simp [glueL, hr]
  have whoN : ∀ {r o : Nat}, ¬ r < w.heap.size → (glueL w.heap.size n L L1).who r o = (match L1.who r o with | .blk b => .blk (n + b) | .spare g => .spare (n + g) | x => x) := fun {r o} hr => by simp [glueL, hr]
  have ne : ∀ {r o : Nat}, L.who r o ≠ .none → r < w.heap.size := fun {r o} hw => by
    rcases Nat.lt_or_ge r w.heap.size with g | g
    · exact g
    · exact absurd (hI.fresh r o g) hw
  have hs : ∀ r o, L1.who r o = .imm → (glueL w.heap.size n L L1).who r o = .imm := fun r o hr => by
    by_cases g : r < w.heap.size
    · rw [whoO g]
      rcases lay0_or (L := L) (r := r) (o := o) with e | e
      · exact lay0_imm.1 e
      · have := E1.non r o g e
        rw [hr] at this; cases this
    · rw [whoN g, hr]
  have hbk : ∀ r o b, L1.who r o = .blk b → (glueL w.heap.size n L L1).who r o = .blk (n + b) := fun r o b hr => by
    have := (I1.own r o b hr).1
    rw [whoN (by omega), hr]
  have hsp : ∀ r o g, L1.who r o = .spare g → (glueL w.heap.size n L L1).who r o = .spare (n + g) := fun r o g hr => by
    have := (I1.spare r o g hr).1
    rw [whoN (by omega), hr]
  have locO : ∀ {b}, b < n → (glueL w.heap.size n L L1).loc b = L.loc b := fun {b} h => by simp [glueL, h]
  have extO : ∀ {b}, b < n → (glueL w.heap.size n L L1).ext b = L.ext b := fun {b} h => by simp [glueL, h]
  have famO : ∀ {b}, b < n → (glueL w.heap.size n L L1).fam b = L.fam b := fun {b} h => by simp [glueL, h]
  have locN : ∀ {b}, n ≤ b → (glueL w.heap.size n L L1).loc b = L1.loc (b - n) := fun {b} h => by simp [glueL, Nat.not_lt.2 h]
  have extN : ∀ {b}, n ≤ b → (glueL w.heap.size n L L1).ext b = L1.ext (b - n) := fun {b} h => by simp [glueL, Nat.not_lt.2 h]
  have famN : ∀ {b}, n ≤ b → (glueL w.heap.size n L L1).fam b = L1.fam (b - n) := fun {b} h => by simp [glueL, Nat.not_lt.2 h]
  have hext : ∀ k, k ≤ n → Ext k L w (glueL w.heap.size n L L1) w' := fun k hk => ⟨fun r o hr => by
      have g := ne (r := r) (o := o) (by rw [hr]; simp)
      exact ⟨(whoO g).trans hr, cell_of_block (hb.block r g)⟩,
    fun b p hbn hp' => by
      rw [locO (by omega)] at hp'
      exact ⟨hp', fun r o hr => (whoO (ne (by rw [hr]; simp))).trans hr, extO (by omega)⟩,
    fun g F hgn hF => by rw [famO (by omega)] at hF; exact ⟨F, hF, .inl rfl⟩,
    hb.size, fun r o hr => frozen_of_block (hb.block r hr), fun r o hr hw => (whoO hr).trans hw⟩
  have vsh : ∀ {x : AV} {u : Value}, VR h1.length L1 w' x u → VR (n + h1.length) (glueL w.heap.size n L L1) w' (shA n x) u := fun hx => vr_sh hs hbk hx
  have hInv : Inv C.glob B w0 (glueL w.heap.size n L L1) w' (hp ++ h1.map (shB n)) := by
    refine ⟨Ig.below, Ig.size, fun b cs hbc => ?_, fun r o b hr => ?_, fun g m hm => ?_, fun r o g hr => ?_, fun r o hr => ?_, fun b hbb => ?_, fun b hbb => ?_, fun g v hv => ?_, ⟨fun b o hbo => ?_, fun b c o q r hb1 hc1 l1 l2 => ?_⟩, Ig.kept⟩
    · rw [hlen]
      rcases app_get hn hbc with ⟨hlt, h2⟩ | ⟨hge, y, h2, h3⟩
      · obtain ⟨p, p1, p2, p3⟩ := hI.blks b cs h2
        refine ⟨p, (locO hlt).trans p1, (extO hlt).trans p2, fun j c hj => ?_⟩
        obtain ⟨q1, q2, rv', q3, q4⟩ := p3 j c hj
        have g := low q3
        exact ⟨(whoO g).trans q1, q2, rv', (cell_of_block (hb.block _ g)).trans q3, by have := q4.mono (n' := n + h1.length) (by omega) (hext hp.length (by omega)); exact this⟩
      · obtain ⟨cs', rfl, rfl⟩ := shB_cells h3.symm
        obtain ⟨p, p1, p2, p3⟩ := I1.blks _ cs' h2
        refine ⟨p, (locN hge).trans p1, by rw [extN hge, p2, shAs_len], fun j c hj => ?_⟩
        obtain ⟨d, d1, rfl⟩ := shAs_get hj
        obtain ⟨q1, q2, rv', q3, q4⟩ := p3 j d d1
        have := hbk _ _ _ q1
        rw [show n + (b - n) = b by omega] at this
        exact ⟨this, by rw [shA_one]; exact q2, rv', q3, vsh q4⟩
    · by_cases g : r < w.heap.size
      · rw [whoO g] at hr
        exact Ig.own r o b hr
      · rw [whoN g] at hr
        split at hr
        · rename_i b' h2
          obtain ⟨q1, q2, q3⟩ := I1.own r o b' h2
          exact ⟨by have := hI.size; omega, q2, q3⟩
        · cases hr
        · rename_i h2 _
          exact absurd hr (h2 b)
    · rcases app_get hn hm with ⟨hlt, h2⟩ | ⟨hge, y, h2, h3⟩
      · obtain ⟨F, f1, f2, f3, f4, f5⟩ := hI.fams g m h2
        exact ⟨F, (famO hlt).trans f1, f2, f3, f4, fun j j1 j2 => by have := f5 j j1 j2; exact (whoO (ne (by rw [this]; simp))).trans this⟩
      · have := shB_fam h3.symm
        subst this
        obtain ⟨F, f1, f2, f3, f4, f5⟩ := I1.fams _ m h2
        exact ⟨F, (famN hge).trans f1, f2, f3, f4, fun j j1 j2 => by have := hsp _ _ _ (f5 j j1 j2); rw [show n + (g - n) = g by omega] at this; exact this⟩
    · by_cases g' : r < w.heap.size
      · rw [whoO g'] at hr
        exact Ig.spare r o g hr
      · rw [whoN g'] at hr
        split at hr
        · cases hr
        · rename_i b' h2
          obtain ⟨q1, q2, q3⟩ := I1.spare r o b' h2
          exact ⟨by have := hI.size; omega, q2, q3⟩
        · rename_i _ h2
          exact absurd hr (h2 g)
    · have g : ¬ r < w.heap.size := by have := hb.size; omega
      rw [whoN g, I1.fresh r o hr]
    · rw [hlen] at hbb
      rw [locN (by omega)]
      exact I1.noLoc _ (by omega)
    · rw [hlen] at hbb
      rw [famN (by omega)]
      exact I1.noFam _ (by omega)
    · exact (hI.globs g v hv).mono (Nat.le_refl _) (hext 0 (Nat.zero_le _))
    · rw [hlen]
      rcases app_get hn hbo with ⟨hlt, h2⟩ | ⟨hge, y, h2, h3⟩
      · obtain ⟨r, r1, r2, x, r3, r4⟩ := hI.objs.at_ b o h2
        have g : r < w.heap.size := (Array.getElem?_eq_some_iff.1 r3).1
        exact ⟨r, (locO hlt).trans r1, r2, x, (hb.block r g).trans r3, r4.mono (by omega) (hext hp.length (by omega))⟩
      · obtain ⟨o', rfl, rfl⟩ := shB_obj h3.symm
        obtain ⟨r, r1, r2, x, r3, r4⟩ := I1.objs.at_ _ o' h2
        refine ⟨r, (locN hge).trans r1, by have := hI.size; omega, x, r3, ?_⟩
        cases o' with
        | sit s p => exact r4
        | mp es =>
          obtain ⟨ra, c, g1, g2, g3⟩ := r4
          refine ⟨ra, c, g1, by simpa using g2, fun i k v hi => ?_⟩
          rw [List.getElem?_map, Option.map_eq_some_iff] at hi
          obtain ⟨e, e1, e2⟩ := hi
          cases e2
          obtain ⟨e', kb, q1, q2, q3, q4, q5⟩ := g3 i e.1 e.2 e1
          exact ⟨e', kb, q1, q2, q3, by rw [shA_noTup]; exact q4, vsh q5⟩
    · rcases app_get hn hb1 with ⟨hlt, h2⟩ | ⟨hge, y, h2, h3⟩ <;> rcases app_get hn hc1 with ⟨hlt', h2'⟩ | ⟨hge', y', h2', h3'⟩
      · rw [locO hlt] at l1
        rw [locO hlt'] at l2
        exact hI.objs.apart b c o q r h2 h2' l1 l2
      · exfalso
        obtain ⟨r', r1, _, x, r3, _⟩ := hI.objs.at_ b o h2
        rw [locO hlt, r1] at l1; cases l1
        obtain ⟨q', rfl, _⟩ := shB_obj h3'.symm
        obtain ⟨r'', s1, s2, _⟩ := I1.objs.at_ _ q' h2'
        rw [locN hge', s1] at l2; cases l2
        have := (Array.getElem?_eq_some_iff.1 r3).1
        omega
      · exfalso
        obtain ⟨r', r1, _, x, r3, _⟩ := hI.objs.at_ c q h2'
        rw [locO hlt', r1] at l2; cases l2
        obtain ⟨q', rfl, _⟩ := shB_obj h3.symm
        obtain ⟨r'', s1, s2, _⟩ := I1.objs.at_ _ q' h2
        rw [locN hge, s1] at l1; cases l1
        have := (Array.getElem?_eq_some_iff.1 r3).1
        omega
      · obtain ⟨o', rfl, _⟩ := shB_obj h3.symm
        obtain ⟨q', rfl, _⟩ := shB_obj h3'.symm
        rw [locN hge] at l1
        rw [locN hge'] at l2
        have := I1.objs.apart _ _ o' q' r h2 h2' l1 l2
        omega
  refine ⟨rv, _, rfl, hInv, by rw [hn] at *; exact hext n (Nat.le_refl _), fun r o t hr hl => ⟨(whoO hr).trans hl, cell_of_block (hb.block r hr), frozen_of_block (hb.block r hr)⟩, hb.size, by rw [hlen]; omega, by rw [hlen]; exact vsh V1⟩
theorem FCalls.mono {f : FuncId} {args : Array Value} {w : World} {R S : Ending → World → Prop} (h : FCalls P f args w R) (k : ∀ e w', R e w' → S e w') : FCalls P f args w S := by
  unfold FCalls at *
  split
  · rename_i v w' hr
    rw [hr] at h
    exact k _ _ h
  · rename_i g ats w' hr
    rw [hr] at h
    exact Calls.mono h k
  · rename_i h1 h2
    split at h
    · rename_i v w' hr; exact absurd hr (h1 _ _)
    · rename_i g ats w' hr; exact absurd hr (h2 _ _ _)
    · exact h
theorem memo_ok {C0 : Cfg} (hT : TabOK P C0) (hg : C0.glob = C.glob) {k : Nat} {f : FuncId} {args : List AV} {v : AV} {h1 : List Blk} (he : evCall C0 k 0 f args [] = some (v, h1)) (hc : cloAs 0 args = true) :
    ∀ hp B w0 L w (rargs : List Value), Inv C.glob B w0 L w hp → CR hp.length L w args rargs → FCalls P f rargs.toArray w (CallPost C B w0 L w hp.length (shA hp.length v) (hp ++ h1.map (shB hp.length))) := by
  intro hp B w0 L w rargs hI hA
  have hI0 : Inv C0.glob w.heap.size w (lay0L L) w [] := by rw [hg]; exact inv_forget hI
  have hA0 : CR 0 (lay0L L) w args rargs := ⟨hA.1, fun i x u hx hu => vr0 (hA.2 i x u hx hu) (cloAs_mem.1 hc x (List.mem_of_getElem? hx))⟩
  exact (evCall_ok hT k 0 f args [] v h1 he w.heap.size w (lay0L L) w rargs hI0 hA0).mono fun e w' h => glue_post hI hg h
end Go.Proofs.YtgbheglnmdnkoaaGreatDoor.E
namespace Go.Proofs.YtgbheglnmdnkoaaGreatDoor.E
open Go
section
variable {C:Cfg}
def RowS (n sz:Nat) (hp:List Blk) (b:Nat) (vs:List AV) (sp:Nat):Prop:=∃ rest,blkCells hp b=some (flat vs++rest)∧rest.length=sp * sz∧n≤b∧AggN sz vs
theorem RowS.rowT {n sz sp b:Nat} {hp:List Blk} {vs:List AV} (h:RowS n sz hp b vs sp):RowT n sz hp (.arr sz b 0 vs.length) vs:=by
 obtain ⟨rest,h1,_,h3,h4⟩:=h
 exact .inr ⟨b,rest,rfl,h1,h3,h4⟩
theorem append_new {fl n sz bytes:Nat} {hp:List Blk} {y:AV} {ws:List AV} {t:TypeId} (hy:elems hp sz y=some ws) (ha:AggN sz ws) (hz:ws≠[]) (ht:elT C t sz bytes=true) (hl:ws.length * bytes≤140737488355328) (hn:n≤hp.length) :
  ∃ hp' fp,(∀ ts,builtinE C fl true ⟨ts,hp⟩ .append [t,t] [.lit sz .exact [],y]=some ⟨.v (.arr sz hp.length 0 ws.length),ts,hp',fp⟩)∧RowN n sz hp' (.arr sz hp.length 0 ws.length) ws∧PreN n hp hp'∧hp'=hp++[.cells (flat ws)]:=by
 obtain ⟨e,a,b0,c,d,ei,g1,g2,rfl,rfl,h5,h6⟩:=elT_ty ht
 have k5:(ei.size==0)=false:=by simpa using h5
 have k6:(ei.bytes==0)=false:=by simpa using h6
 have hk:(ws.length==0)=false:=by simpa using hz
 have hl':decide (ws.length * ei.bytes≤140737488355328)=true:=decide_eq_true hl
 have n1:isSlc (.lit ei.size .exact [])=true:=rfl
 have he:E.elems hp ei.size (.lit ei.size .exact [])=some []:=by simp [E.elems]
 refine ⟨hp++[.cells (flat ws)],bif isArr (.lit ei.size .exact [])||isArr y then .hw else .fw,fun ts => ?_, .inr ⟨hp.length,rfl,blk_last,hn,ha⟩, .app hn,rfl⟩
 simp only [builtinE,appendE,appElems,g1,g2,he,hy,List.length_nil,Nat.zero_add,hl',k5,k6,n1,hk,Bool.not_true,Bool.or_self,cond_false rfl,cond_true rfl,List.nil_append]
theorem shut_rowP {n0 k D sz:Nat} {hp:List Blk} {x:AV} {us:List AV} (h:RowT n0 sz hp x us) (h1:sz≠1) (hv:∀ v ∈ us,shutV hp k D v=some v) (hk:k≤n0):shutV hp k (D + 1) x=some (match x with | .nilS => .nilS | _ => .lit sz .sealed us):=by
 have he:=h.elems h1
 rcases h with ⟨rfl,rfl⟩ | ⟨b,rest,rfl,h2,h3,h4⟩
 ·rfl
 ·have e1:decide (b < k)=false:=decide_eq_false (by omega)
  have g1:mapO (shutV hp k D) us=some us:=by
   clear he h2 h4 rest
   induction us with
   | nil=>rfl
   | cons u us ih=>simp only [mapO,hv u (by simp),ih fun v hv'=>hv v (by simp [hv'])]
  simp only [shutV,e1,cond_false rfl,he,g1,Option.map]
end
end Go.Proofs.YtgbheglnmdnkoaaGreatDoor.E
namespace Go.Proofs.YtgbheglnmdnkoaaGreatDoor.E
open Go
variable {C:Cfg}
theorem FrC.obj {hp:List Blk} {b:Nat} {o:Ob} {x:Blk} (h:blkObj hp b=some o):FrC [] hp (setAt hp b x):=by
 refine ⟨by rw [setAt_length];exact Nat.le_refl _,fun c cs _ hc => ?_⟩
 unfold blkCells blkObj at *
 rw [getAt_eq] at *
 rw [setAt_eq]
 by_cases e:b=c
 ·subst e
  split at h
  ·rename_i h2;rw [h2] at hc;cases hc
  ·cases h
 ·rw [List.getElem?_set_ne e];exact hc
end Go.Proofs.YtgbheglnmdnkoaaGreatDoor.E
namespace Go.Proofs.YtgbheglnmdnkoaaGreatDoor.E
open Go
variable {C:Cfg}
theorem Gr.pre {n fl sz:Nat} {hp hp':List Blk} {x:AV} {vs:List AV} (h:Gr fl sz hp x vs) (hp1:PreN n hp hp') (hn:hp.length≤n):Gr fl sz hp' x vs:=by
 rcases h with h | ⟨g,h1,h2,h3⟩
 ·exact .inl h
 ·refine .inr ⟨g,h1, ?_,h3⟩
  rw [hp1.2 g ?_];exact h2
  have:g < hp.length:=by
   rw [getAt_eq] at h2
   exact (List.getElem?_eq_some_iff.1 h2).1
  omega
theorem append_gn {fl n sz bytes:Nat} {hp:List Blk} {x y:AV} {vs ws:List AV} {t:TypeId} (h:Gr n sz hp x vs) (hfn:fl≤n) (hn:n≤hp.length) (hy:elems hp sz y=some ws) (ht:elT C t sz bytes=true) (hw:ws≠[]) (hl:(vs.length + ws.length) * bytes≤140737488355328) :
  ∃ g hp',(∀ ts,builtinE C fl false ⟨ts,hp⟩ .append [t,t] [x,y]=some ⟨.v (.lit sz (.fam g 0) (vs++ws)),ts,hp',bif isArr y then .hw else .fw⟩)∧Gr n sz hp' (.lit sz (.fam g 0) (vs++ws)) (vs++ws)∧FrC [] hp hp'∧PreN n hp hp':=by
 obtain ⟨e,a,b,c,d,ei,h1,h2,rfl,rfl,h5,h6⟩:=elT_ty ht
 have hk:(ws.length==0)=false:=by simpa using hw
 have k5:(ei.size==0)=false:=by simpa using h5
 have k6:(ei.bytes==0)=false:=by simpa using h6
 rcases h with ⟨rfl,rfl⟩ | ⟨g,rfl,h3,h4⟩
 ·refine ⟨hp.length,hp++[.fam ws.length],fun ts => ?_, .inr ⟨hp.length,rfl, ?_,hn⟩, .app _ _ _, .app hn⟩
  ·simp only [List.length_nil,Nat.zero_add] at hl
   have n1:elems hp ei.size .nilS=some []:=rfl
   have n2:isArr .nilS=false:=rfl
   have n3:isSlc .nilS=true:=rfl
   simp [builtinE,appendE,appElems,h1,h2,hy,hl,k5,k6,hk,n1,n2,n3]
  ·rw [getAt_eq,List.getElem?_append_right (Nat.le_refl _),Nat.sub_self];simp
 ·refine ⟨g,setAt hp g (.fam (vs.length + ws.length)),fun ts => ?_, .inr ⟨g,rfl, ?_,h4⟩, .setFam (by unfold blkCells;rw [h3]), .set h4⟩
  ·have n1:elems hp ei.size (.lit ei.size (.fam g 0) vs)=some vs:=by simp [elems]
   have n2:isArr (.lit ei.size (.fam g 0) vs)=false:=rfl
   have n3:isSlc (.lit ei.size (.fam g 0) vs)=true:=rfl
   have n4:decide (fl≤g)=true:=decide_eq_true (Nat.le_trans hfn h4)
   simp [builtinE,appendE,appElems,h1,h2,hy,hl,k5,k6,hk,n1,n2,n3,h3,Nat.le_trans hfn h4]
  ·rw [getAt_eq,setAt_eq,List.getElem?_set_self]
   ·simp
   ·rw [getAt_eq] at h3;exact (List.getElem?_eq_some_iff.1 h3).1
end Go.Proofs.YtgbheglnmdnkoaaGreatDoor.E
namespace Go.Proofs.YtgbheglnmdnkoaaGreatDoor.E
open Go
section
variable {C:Cfg}
theorem chunk_agg {sz:Nat}:∀ (k:Nat) (l:List AV),l.length=k * sz→∃ zs,l=flat zs∧AggN sz zs∧zs.length=k:=by
 intro k
 induction k with
 | zero =>
  intro l h
  have:l=[]:=List.eq_nil_of_length_eq_zero (by simpa using h)
  subst this
  exact ⟨[],rfl,fun v hv=>(by cases hv),rfl⟩
 | succ k ih =>
  intro l h
  have h':l.length=k * sz + sz:=by rw [h,Nat.succ_mul]
  obtain ⟨zs,h1,h2,h3⟩:=ih (l.drop sz) (by rw [List.length_drop,h'];omega)
  refine ⟨.agg (l.take sz)::zs, ?_,fun v hv => ?_,by simp [h3]⟩
  ·show l=l.take sz++flat zs
   rw [← h1,List.take_append_drop]
  ·rcases List.mem_cons.1 hv with rfl | hv
   ·exact ⟨_,rfl,by rw [List.length_take];omega⟩
   ·exact h2 v hv
def zeroT (C:Cfg) (t:TypeId):Nat:=match C.ty t with
 | some ⟨.slice e,_,_,_,_⟩=>(match C.ty e with
  | some ei=>ei.zero.length
  | none=>0)
 | _=>0
theorem zeros_len {ti:TI}:∀ n:Nat,(zeros ti n).length=n * ti.zero.length
 | 0=>by simp [zeros]
 | n + 1=>by unfold zeros;rw [List.length_append,zeros_len n,Nat.succ_mul];omega
theorem clear_rowN {t:TypeId} {fl sz b len i:Nat} {hp:List Blk} {xs:List AV} (h:blkCells hp b=some (flat xs)) (ha:AggN sz xs) (hi:i < xs.length) (hl:len=xs.length - i) (ht:isSlcT C t sz=true) (h0:sz≠0) (hz:(zeroT C t==sz)=true) (hf:fl≤b) :
  ∃ hp' zs,(∀ ts,builtinE C fl true ⟨ts,hp⟩ .clear [t] [.arr sz b (i * sz) len]=some ⟨.v (.tup []),ts,hp', .hw⟩)∧hp'=setAt hp b (.cells (flat (xs.take i++zs)))∧blkCells hp' b=some (flat (xs.take i++zs))∧AggN sz zs∧zs.length=xs.length - i:=by
 subst hl
 unfold isSlcT at ht
 split at ht
 ·rename_i e _ _ _ _ h1
  split at ht
  ·rename_i ei h2
   have hsz:sz=ei.size:=by simpa using ht
   have e0:(ei.size==0)=false:=by rw [← hsz];simpa using h0
   have e1:decide (fl≤b)=true:=decide_eq_true hf
   have e2:decide (i * sz + (xs.length - i) * sz≤(flat xs).length)=true:=decide_eq_true (by
    rw [flat_len ha,← Nat.add_mul,show i + (xs.length - i)=xs.length by omega]
    exact Nat.le_refl _)
   have hll:=flat_len ha
   have hk:i * sz≤(flat xs).length:=by rw [hll];exact Nat.mul_le_mul_right _ (by omega)
   have e3:(flat xs).take (i * sz)=flat (xs.take i):=by
    have e4:=List.take_append_drop i xs
    have e5:flat xs=flat (xs.take i)++flat (xs.drop i):=by rw [← flat_app,e4]
    have e6:(flat (xs.take i)).length=i * sz:=by rw [flat_len ha.take,List.length_take,Nat.min_eq_left (by omega)]
    rw [e5,List.take_append_of_le_length (by omega),List.take_of_length_le (by omega)]
   have hs:∃ r,splice (flat xs) (i * sz) (zeros ei (xs.length - i))=flat (xs.take i)++r:=by
    rw [splice_eq _ _ _ hk,e3,List.append_assoc];exact ⟨_,rfl⟩
   obtain ⟨r,hr⟩:=hs
   have hzl:ei.zero.length=sz:=by
    unfold zeroT at hz
    simp only [h1,h2] at hz
    simpa using hz
   have hrl:r.length=(xs.length - i) * sz:=by
    have h3:=congrArg List.length hr
    have h5:xs.length * sz=i * sz + (xs.length - i) * sz:=by rw [← Nat.add_mul];congr 1;omega
    rw [splice_length (by rw [zeros_len,hzl,hll,h5];exact Nat.le_refl _),List.length_append,flat_len ha.take,List.length_take,Nat.min_eq_left (by omega),hll] at h3
    omega
   obtain ⟨zs,z1,z2,z3⟩:=chunk_agg _ r hrl
   refine ⟨_,zs,fun ts => ?_,rfl,blk_set (blk_lt h),z2,z3⟩
   rw [flat_app,← z1,← hr]
   simp only [builtinE,clearE,h1,h2,h,ht,e0,e1,e2,Bool.not_false,Bool.and_self,cond_true rfl]
  ·cases ht
 ·cases ht
theorem slice_row_le {t:TypeId} {sz b len i:Nat} {hp:List Blk} {xs:List AV} {k:IntKind} (h:blkCells hp b=some xs) (ht:isSlcT C t sz=true) (hi:i≤len):∀ ts,sliceE C ⟨ts,hp⟩ t (.v (.arr sz b 0 len)) none (some (.int k (i:Int))) none=some (.arr sz b 0 i):=by
 intro ts
 unfold isSlcT at ht
 split at ht
 ·rename_i e _ _ _ _ h1
  split at ht
  ·rename_i ei h2
   have e1:decide ((i:Int) < 0)=false:=decide_eq_false (by omega)
   have e2:decide (i≤len)=true:=decide_eq_true (by omega)
   have e3:decide (0≤i)=true:=decide_eq_true (by omega)
   have e4:(!((0:Nat)==0))=false:=rfl
   simp only [sliceE,h1,h2,bnd,h,e1,e2,e3,e4,ht,Int.toNat_natCast,Bool.and_self,Bool.not_true,cond_false rfl,Bool.and_false,Nat.zero_add,Nat.zero_mul,Nat.sub_zero]
  ·cases ht
 ·cases ht
end
section
variable {C:Cfg}
theorem append_any {fl n sz bytes:Nat} {hp:List Blk} {x y:AV} {vs ws:List AV} {t:TypeId} (h:Gr n sz hp x vs) (hfn:fl≤n) (hn:n≤hp.length) (hy:elems hp sz y=some ws) (ht:elT C t sz bytes=true) (hl:(vs.length + ws.length) * bytes≤140737488355328) :
  ∃ x' hp',(∀ ts,builtinE C fl false ⟨ts,hp⟩ .append [t,t] [x,y]=some ⟨.v x',ts,hp',bif isArr y then .hw else .fw⟩)∧Gr n sz hp' x' (vs++ws)∧FrC [] hp hp'∧PreN n hp hp':=by
 by_cases hw:ws=[]
 ·subst hw
  obtain ⟨e,a,b,c,d,ei,h1,h2,rfl,rfl,h5,h6⟩:=elT_ty ht
  have k5:(ei.size==0)=false:=by simpa using h5
  have k6:(ei.bytes==0)=false:=by simpa using h6
  have n0:elems hp ei.size x=some vs∧isArr x=false∧isSlc x=true:=by
   rcases h with ⟨rfl,rfl⟩ | ⟨g,rfl,_⟩
   ·exact ⟨rfl,rfl,rfl⟩
   ·exact ⟨by simp [elems],rfl,rfl⟩
  obtain ⟨n1,n2,n3⟩:=n0
  simp only [List.length_nil,Nat.add_zero] at hl
  refine ⟨x,hp,fun ts => ?_,by rw [List.append_nil];exact h, .refl _ _, .refl _ _⟩
  simp [builtinE,appendE,appElems,h1,h2,hy,hl,k5,k6,n1,n2,n3]
 ·obtain ⟨g,hp',h1,h2,h3,h4⟩:=append_gn h hfn hn hy ht hw hl
  exact ⟨_,hp',h1,h2,h3,h4⟩
end
section
variable {C:Cfg}
end
end Go.Proofs.YtgbheglnmdnkoaaGreatDoor.E
namespace Go.Proofs.YtgbheglnmdnkoaaGreatDoor.E
open Go Go.RowKit Go.Lib
section
variable {P:Program}
theorem ins_copy (w:World) (dT sT ty elem:TypeId) (b o dLen dCap:Nat) (a:Addr) (sLen sCap k:Nat) (cs:List Value) (hu:P.underlying dT=some (.slice elem)) (hs:(P.info? elem).map (·.size)=some k) (hn:cs.length=Nat.min sLen dLen * k)
  (hsrc:∀ j v,cs[j]?=some v→w.cell? (a.add j)=some v) (hc:∀ j,j < cs.length→(w.cell? ⟨b,o + j,none⟩).isSome=true) (hf:∀ j,j < cs.length→w.frozen? ⟨b,o + j,none⟩=false) (h1:∀ v ∈ cs,v.oneCell'=true) :
  (Builtin.copy_ #[dT,sT] ty #[.slice (some ⟨b,o,none⟩) dLen dCap, .slice (some a) sLen sCap]).run P w = .ok (goInt (Nat.min sLen dLen)) (w.setCells b o cs):=by
 have hl:=run_loadCells_list (P:=P) w a cs hsrc
 have hst:=run_storeCells_cells (P:=P) b o cs 0 w (by simpa using hc) (by simpa using hf) h1
 cases hq:P.info? elem with
 | none=>simp [hq] at hs
 | some i =>
  have hi:i.size=k:=by simpa [hq] using hs
  simp [Builtin.copy_,run_underlying hu,Builtin.lenOf,Builtin.firstCells,Go.sizeOf,typeInfo,hq,hi,← hn,hl,hst]
theorem ins_at_copy (w:World) {ops:Array Oper} {rest:List Oper} {o:Oper} {a:Act} {Q:Exit→Act→World→Prop} (hgd:o.guard=none) (d s:Operand) (t t':TypeId)
  (ho:o.op = .call { callee := .builtin .copy,args := #[d,s],argTypes := #[t,t'] }) (v u:Value) (hd:a.eval d=v) (hs:a.eval s=u) {v':Value} {w':World}
  (hr:(Builtin.copy_ #[t,t'] o.type #[v,u]).run P w = .ok v' w') (h:wpList P ops Q rest (a.put o.dst v') w'):wpList P ops Q (o::rest) a w :=
 wpList_plain hgd fun _ hK=>by
  unfold Oper.wp execOp
  simp only [ho,resolve,invoke,builtin,Sem.run_bind,Sem.run_pure,Result.andThen_ok,List.map_toArray,List.map_cons,List.map_nil,hd,hs,hr]
  exact hK _ _ h
theorem ins_at_append (w:World) {ops:Array Oper} {rest:List Oper} {o:Oper} {a:Act} {Q:Exit→Act→World→Prop} (hgd:o.guard=none) (d s:Operand) (t t':TypeId)
  (ho:o.op = .call { callee := .builtin .append,args := #[d,s],argTypes := #[t,t'] }) (v u:Value) (hd:a.eval d=v) (hs:a.eval s=u) {v':Value} {w':World}
  (hr:(Builtin.append_ #[t,t'] o.type #[v,u]).run P w = .ok v' w') (h:wpList P ops Q rest (a.put o.dst v') w'):wpList P ops Q (o::rest) a w :=
 wpList_plain hgd fun _ hK=>by
  unfold Oper.wp execOp
  simp only [ho,resolve,invoke,builtin,Sem.run_bind,Sem.run_pure,Result.andThen_ok,List.map_toArray,List.map_cons,List.map_nil,hd,hs,hr]
  exact hK _ _ h
theorem ins_step {ops:Array Oper} {o:Oper} {a:Act} {w:World} {K:Act→World→Prop} {Q:Exit→Act→World→Prop} {X:Prop}
  (hg:o.guard=none) (d x:Operand) (dT sT:TypeId) (hop:o.op=Op.call { callee:=Callee.builtin Builtin.copy,args := #[d,x],argTypes := #[dT,sT] })
  (v u:Value) (hd:a.eval d=v) (hx:a.eval x=u) {v':Value} {w':World} (hr:(Builtin.copy_ #[dT,sT] o.type #[v,u]).run P w = .ok v' w') (hK:K (a.put o.dst v') w') :
  if Region.wanted o (yielded ops a.tmps)=true then Oper.wp P o a w K Q else X:=by
 rw [if_pos (by simp [Region.wanted,hg])]
 unfold Oper.wp
 simp [execOp,hop,resolve,invoke,builtin,hd,hx,hr,Result.andThen]
 exact hK
theorem setCells_some (b:Nat) (vs:List Value) (o:Nat) (w:World) (h:∀ j,j < vs.length→(w.cell? ⟨b,o + j,none⟩).isSome=true) (k:Nat) (hk:(w.cell? ⟨b,k,none⟩).isSome=true):((w.setCells b o vs).cell? ⟨b,k,none⟩).isSome=true:=by
 by_cases hin:o≤k∧k < o + vs.length
 ·have:=World.cell?_setCells_in b vs o w h (k - o) (by omega)
  rw [show o + (k - o)=k by omega] at this
  rw [this];rfl
 ·rw [World.cell?_setCells_out b vs o w ⟨b,k,none⟩ (fun _ _=>by show k < o∨o + vs.length≤k;omega)]
  exact hk
theorem ins_overlaps (w:World) (tS tR e:TypeId) (ht:P.underlying tS=some (.slice e)) (size:Nat) (hz:∀ w,(Go.sizeOf e).run P w = .ok size w)
  (a b:Addr) (la ca lb cb:Nat) (tA tB:TypeId) (kA kB:Nat) (hsa:w.shape? a.block=some (tA,kA)) (hsb:w.shape? b.block=some (tB,kB)) (hkA:kA≠0) (hfb:∀ o,w.frozen? ⟨b.block,o,none⟩=false) (hb:b.spot=none)
  (hap:a.block=b.block→b.off + lb * size≤a.off∨a.off + la * size≤b.off) :
  (Extern.SlicesOverlaps.overlaps #[tS,tS] #[tR] #[.slice (some a) la ca, .slice (some b) lb cb]).run P w = .ok (.bool false) w:=by
 change Sem.run P (α:=Value) (do
  let some t := (#[tS, tS] : Array TypeId)[0]? | stuck "slices.overlaps: no parameter types"
  let .slice elem ← underlying t | stuck "slices.overlaps: slice type expected"
  let size ← Go.sizeOf elem
  match (some a:Option Addr),(some b:Option Addr) with
  | some a,some b =>
   if la=0∨lb=0∨size=0 then pure (Value.bool false)
   else if a.block != b.block&&(← frozen a)&&(← frozen b) then unsupported .addressObserved
   else do
    if a.block != b.block then do
     noView a;noView b
     if ← mayBeOne a b then return Value.bool ((← choose (.extern "sameAddr.stringBytes" 2)) == 1)
    pure (Value.bool (a.block==b.block&&a.off < b.off + lb * size&&b.off < a.off + la * size))
  | _,_=>pure (Value.bool false)) w=_
 by_cases h0:la=0∨lb=0∨size=0
 ·simp [run_underlying ht,hz,h0]
 ·obtain ⟨bb,bo,bs⟩:=b
  cases hb
  have hfb':=hfb bo
  have hfb2:=hfb kB
  cases kA with
  | zero=>exact absurd rfl hkA
  | succ kA =>
   by_cases hne:a.block=bb
   ·have hnb:(a.block != bb)=false:=by simpa using hne
    have hnb':(a.block==bb)=true:=by simpa using hne
    have hap:=hap hne
    have:¬ (a.off < bo + lb * size∧bo < a.off + la * size):=by
     rintro ⟨h1,h2⟩
     rcases hap with h | h <;> (simp at h;omega)
    simp [run_underlying ht,hz,h0,hnb,hnb',Sem.run]
    intro h1
    exact Nat.le_of_not_lt fun h2=>this ⟨h1,h2⟩
   ·have hnb:(a.block != bb)=true:=by simpa using hne
    have hnb':(a.block==bb)=false:=by simpa using hne
    simp [run_underlying ht,hz,h0,hnb,hnb',frozen,noView,viewAt,mayBeOne,stringish,shape,Sem.run,hsa,hsb,hfb',hfb2]
end
section
variable {P:Program} {C:Cfg}
structure InsSays (P:Program) (f:FuncId) (tS tV tI tE:TypeId):Prop where
 shift:∀ (b off n c i vb voff vc:Nat) (cs vs:List Value) (w:World) (_:i < n) (_:n + 1≤c) (_:n≤140737488355328) (_:cs.length=n * 2) (_:vs.length=2)
  (_:∀ j v,cs[j]?=some v→w.cell? ⟨b,off + j,none⟩=some v) (_:∀ j,j < (n + 1) * 2→(w.cell? ⟨b,off + j,none⟩).isSome=true) (_:∀ o,w.frozen? ⟨b,o,none⟩=false)
  (_:∀ j v,vs[j]?=some v→w.cell? ⟨vb,voff + j,none⟩=some v) (_:∀ v ∈ cs,v.oneCell'=true) (_:∀ v ∈ vs,v.oneCell'=true)
  (_:vb=b→off + (n + 1) * 2≤voff∨voff + 2≤off)
  (tA tB:TypeId) (kA kB:Nat) (_:w.shape? vb=some (tA,kA)) (_:w.shape? b=some (tB,kB)) (_:kA≠0),
  Calls P f #[.slice (some ⟨b,off,none⟩) n c, .int .i64 i, .slice (some ⟨vb,voff,none⟩) 1 vc] w fun e w' =>
   e = .returned (.slice (some ⟨b,off,none⟩) (n + 1) c)∧w'=(w.drew.setCells b (off + (i + 1) * 2) (cs.drop (i * 2))).setCells b (off + i * 2) vs
 fin:∀ (base:Option Addr) (n c vb voff vc:Nat) (w w1:World) (rv:Value) (_:∀ a,base=some a→a.spot=none) (_:base=none→n=0∧c=0) (_:n≤c)
  (_:(Builtin.append_ #[tS,tV] tS #[.slice base n c, .slice (some ⟨vb,voff,none⟩) 1 vc]).run P w = .ok rv w1),
  Calls P f #[.slice base n c, .int .i64 n, .slice (some ⟨vb,voff,none⟩) 1 vc] w fun e w'=>e = .returned rv∧w'=w1
 grow:∀ (b off n c i vb voff vc G:Nat) (cs vs:List Value) (ROW:Array Value) (w:World) (_:i < n) (_:n≤c) (_:c < n + 1) (_:n≤140737488355328)
  (_:cs.length=n * 2) (_:vs.length=2)
  (_:∀ j v,cs[j]?=some v→w.cell? ⟨b,off + j,none⟩=some v)
  (_:∀ j v,vs[j]?=some v→w.cell? ⟨vb,voff + j,none⟩=some v) (_:∀ v ∈ cs,v.oneCell'=true) (_:∀ v ∈ vs,v.oneCell'=true)
  (_:(n + 1) * 2≤ROW.size) (_:n + 1≤G)
  (_:(Builtin.append_ #[tS,tI] tS #[.slice (some ⟨b,off,none⟩) i c, .int .i64 ((n:Int) + 1 - (i:Int))]).run P w = .ok (.slice (some ⟨w.heap.size,0,none⟩) (n + 1) G) (w.drew.alloc (.cells ROW tE))),
  Calls P f #[.slice (some ⟨b,off,none⟩) n c, .int .i64 i, .slice (some ⟨vb,voff,none⟩) 1 vc] w fun e w' =>
   e = .returned (.slice (some ⟨w.heap.size,0,none⟩) (n + 1) G)∧w'=(((w.alloc (.cells ROW tE)).drew.setCells w.heap.size (i * 2) vs).drew).setCells w.heap.size ((i + 1) * 2) (cs.drop (i * 2))
theorem shape_of {w:World} {r o:Nat} {v:Value} (h:w.cell? ⟨r,o,none⟩=some v):∃ t k,w.shape? r=some (t,k)∧k≠0:=by
 unfold World.cell? at h
 unfold World.shape?
 dsimp only at h
 split at h
 ·rename_i c t q hc
  refine ⟨t,c.size,rfl, ?_⟩
  simp at h
  intro h0
  rw [Array.getElem?_eq_none (by omega)] at h
  cases h
 ·cases h
theorem chunk_ex:∀ (k:Nat) (cs:List AV),k * 2≤cs.length→∃ ys,chunk 2 k cs=some ys
 | 0,_,_=>⟨[],rfl⟩
 | k + 1,cs,h=>by
  obtain ⟨ys,hy⟩:=chunk_ex k (cs.drop 2) (by rw [List.length_drop];omega)
  refine ⟨.agg (cs.take 2)::ys, ?_⟩
  unfold chunk
  have e:((2:Nat)==1)=false:=rfl
  have e2:((cs.take 2).length==2)=true:=by rw [List.length_take];simp;omega
  simp only [e,cond_false,e2,cond_true,hy]
theorem wrote_two {w w1 w2:World} {rb lo:Nat} {vs ws:List Value} (h1:Wrote w w1 rb (lo + vs.length) ws) (h2:Wrote w1 w2 rb lo vs):Wrote w w2 rb lo (vs++ws) where
 size:=h2.size.trans h1.size
 out r o h:=by
  simp only [List.length_append] at h
  rw [h2.out r o (fun e=>by have:=h e;omega),h1.out r o (fun e=>by have:=h e;omega)]
 inn j v hj:=by
  rw [List.getElem?_append] at hj
  split at hj
  ·exact h2.inn j v hj
  ·rename_i hlt
   have:=h1.inn _ v hj
   rw [show lo + vs.length + (j - vs.length)=lo + j by omega] at this
   rw [h2.out _ _ (fun _ => .inr (by omega))];exact this
 fro a:=(h2.fro a).trans (h1.fro a)
 below B w0 hB hb:=by
  by_cases hv:vs=[]
  ·subst hv
   refine h2.below B w0 (fun h=>absurd rfl h) (h1.below B w0 (fun h=>hB (by simpa using h)) hb)
  ·exact h2.below B w0 (fun _=>hB (by simp [hv])) (h1.below B w0 (fun _=>hB (by simp [hv])) hb)
 obj:=h1.obj.trans h2.obj
theorem wrote_drew {w:World} {rb lo:Nat} {vs:List Value} (h:∀ j,j < vs.length→(w.cell? ⟨rb,lo + j,none⟩).isSome=true):Wrote w (w.drew.setCells rb lo vs) rb lo vs:=by
 have k:=wrote_setCells (w:=w.drew) (rb:=rb) (lo:=lo) (vs:=vs) h
 exact ⟨k.size,k.out,k.inn,k.fro,fun B w0 hB hb=>k.below B w0 hB (hb.trans (by exact ⟨rfl,rfl,rfl,Nat.le_refl _,fun _ _=>rfl⟩)),k.obj⟩
theorem reals {n:Nat} {L:Lay} {w:World} {cs:List AV} {rb ro:Nat} (h:∀ j c,cs[j]?=some c→c.one=true∧∃ rv,w.cell? ⟨rb,ro + j,none⟩=some rv∧VR n L w c rv) :
  ∃ rc:Array Value,ACR n L w cs rc∧∀ j v,rc[j]?=some v→w.cell? ⟨rb,ro + j,none⟩=some v:=by
 refine ⟨(Array.range cs.length).map fun j=>(w.cell? ⟨rb,ro + j,none⟩).getD default,⟨by simp,fun j c hj=>(h j c hj).1,fun j c hj => ?_⟩,fun j v hj => ?_⟩
 ·have hlt:=(List.getElem?_eq_some_iff.1 hj).1
  obtain ⟨_,rv,h1,h2⟩:=h j c hj
  rw [Array.getD_eq_getD_getElem?,Array.getElem?_map,Array.getElem?_range,if_pos hlt]
  simp only [Option.map_some,Option.getD_some,h1]
  exact h2
 ·rw [Array.getElem?_map,Array.getElem?_range] at hj
  split at hj
  ·rename_i hlt
   obtain ⟨_,rv,h1,_⟩:=h j _ (List.getElem?_eq_getElem hlt)
   simp only [Option.map_some,h1,Option.getD_some] at hj
   rw [h1,← Option.some.inj hj]
  ·cases hj
end
end Go.Proofs.YtgbheglnmdnkoaaGreatDoor.E
/- The library's insertion: the machine's word for it is sound. -/
namespace Go.Proofs.YtgbheglnmdnkoaaGreatDoor.E
open Go Go.RowKit Go.Lib
variable {P : Program} {C : Cfg}
theorem insE_ok (hT : TysOK P C) {f : FuncId} {fn : Func} (hf : P.funcs[f]? = some fn) (hbody : fn.body.isSome = true) (hname : (fn.name == "runtime.NumGoroutine") = false) {tS tV tI tE : TypeId} {x1 x2 y1 y2 u1 u2 : Nat} {x3 y3 u3 : List AV} {x4 y4 u4 : Bool}
    (hti : C.ty tS = some ⟨.slice tE, x1, x2, x3, x4⟩) (htv : C.ty tV = some ⟨.slice tE, y1, y2, y3, y4⟩) (hin : C.ty tI = some ⟨.int .i64, u1, u2, u3, u4⟩) {ei : TI} (hei : C.ty tE = some ei) (hs2 : ei.size = 2) (hb32 : ei.bytes = 32) {z : AV} (hz : valOf ei ei.zero = some z) (hz2 : z.cells.length = 2)
    (hS : InsSays P f tS tV tI tE) (hins : C.ins f = some (2, 32)) : ∀ fl args hp v hp', insE C fl f args hp = some (v, hp') → ∀ B w0 L w (rargs : List Value), Inv C.glob B w0 L w hp → CR hp.length L w args rargs → FCalls P f rargs.toArray w (CallPost C B w0 L w hp.length v hp') := by
  intro fl args hp v hp' h B w0 L w rargs hI hA
  refine fcalls_calls hf hbody hname ?_
  obtain ⟨i0, ed, zv, hinfo, hed, hsz, hby, hek, hzi, hzs, hzl, hzo, _, _⟩ := (hT _ _ hei).ex
  unfold insE at h
  rw [hins] at h
  split at h
  case h_2 => cases h
  rename_i sz by' s i s' own x hkd he
  cases he
  obtain ⟨hl, hA⟩ := hA
  obtain ⟨rs, ri, rv, rfl⟩ : ∃ r0 r1 r2, rargs = [r0, r1, r2] := by
    match rargs, hl with
    | [a, b, c], _ => exact ⟨a, b, c, rfl⟩
  have hs0 := hA 0 _ rs rfl rfl
  have hi0 := hA 1 _ ri rfl rfl
  have hv0 := hA 2 _ rv rfl rfl
  cases hi0
  simp only [cond_eq_ite] at h
  split at h
  · cases h
  rename_i hc0
  simp only [Bool.or_eq_true, Bool.not_eq_true', not_or, Bool.not_eq_false, beq_iff_eq] at hc0
  obtain ⟨⟨rfl, hx2⟩, hxt⟩ := hc0
  -- the end: an append
  have theEnd : ∀ (n : Nat) (hp2 : List Blk) (y : AV), i = (n : Int) → appendE C fl true ⟨[], hp⟩ tS tV s (.lit 2 own [x]) = some ⟨.v y, [], hp2, bif isArr s then .hw else .fw⟩ → (∃ base c, rs = .slice base n c ∧ (∀ a, base = some a → a.spot = none) ∧ (base = none → n = 0 ∧ c = 0) ∧ n ≤ c) →
      Calls P f #[rs, .int .i64 i, rv] w (CallPost C B w0 L w hp.length y hp2) := fun n hp2 y hn happ hrs => by
    obtain ⟨base, c, rfl, q1, q2, q3⟩ := hrs
    subst hn
    obtain ⟨w1, r1, g1, g2⟩ := appendE_ok (P := P) (ty := tS) (ts := []) hT (st := ⟨[], hp⟩) hI happ hs0 hv0
    obtain ⟨L', x', k1, _, k3, k4, k5, k6, k7, k8⟩ := g2
    cases k1
    cases hv0 with
    | lit _ _ _ vb vo vc cv g1' g2' g3' g4' g5' g6' =>
    refine (hS.fin base n c vb vo vc w w1 r1 q1 q2 q3 g1).mono fun e w' ⟨he, hw⟩ => ?_
    subst he hw
    exact ⟨r1, L', rfl, k3, k4, k5 _, k6, k7, k8⟩
  have hflx : flat [x] = x.cells := by simp [flat]
  split at h
  · -- nil
    split at h
    · rename_i hi
      simp only [decide_eq_true_eq] at hi
      cases h
      cases hs0
      refine theEnd 0 _ _ hi ?_ ⟨none, 0, rfl, by simp, by simp, Nat.le_refl _⟩
      have n1 : elems hp 2 .nilS = some [] := rfl
      have n2 : elems hp 2 (.lit 2 own [x]) = some [x] := by simp [elems]
      have n3 : isSlc .nilS = true := rfl
      have n4 : isArr .nilS = false := rfl
      have n5 : isArr (.lit 2 own [x]) = false := rfl
      simp only [appendE, hti, hei, appElems, htv, hs2, n1, n2, hb32, n3, n4, n5, List.length_cons, List.length_nil, List.nil_append, hflx]
      rfl
    · cases h
  · rename_i s0 b len
    split at h
    case h_2 => cases h
    rename_i cs hcs
    split at h
    case isFalse => cases h
    rename_i hc
    simp only [Bool.and_eq_true, decide_eq_true_eq, beq_iff_eq] at hc
    obtain ⟨⟨⟨⟨⟨rfl, hfl⟩, hi0⟩, hile⟩, hcl⟩, hbig⟩ := hc
    cases h
    obtain ⟨m, rfl⟩ := Int.eq_ofNat_of_zero_le hi0
    simp only [Int.toNat_natCast]
    have hbb := blkCells_eq hcs
    have hbl : b < hp.length := (List.getElem?_eq_some_iff.1 hbb).1
    obtain ⟨p, hp1, hpl, hp2⟩ := hI.blks b cs hbb
    have hone : ∀ (j : Nat) c, cs[j]? = some c → c.one = true := fun j c hj => (hp2 j c hj).2.1
    have hs0' := hs0
    cases hs0 with
    | arr _ _ _ _ a cap hbn hlc ha =>
    obtain ⟨rfl, hwho, hext, hplain⟩ := ha p hp1
    simp only [Nat.add_zero] at hwho hext hs0' theEnd
    simp only [Nat.add_zero]
    rw [hpl] at hext
    have hml : m ≤ len := by omega
    rcases Nat.lt_or_ge m len with hlt | hge
    · -- within the row
      have hfro : ∀ o, w.frozen? ⟨p.1, o, none⟩ = false := by
        rcases hplain with g | g
        · cases g
        · exact g.2
      obtain ⟨rc, a1, a2⟩ := reals (n := hp.length) (L := L) (w := w) (cs := cs) (rb := p.1) (ro := p.2) fun j c hj => (hp2 j c hj).2
      cases hv0 with
      | lit _ _ _ vb vo vc cv v1 v2 v3 v4 v5 v6 =>
      simp only [List.length_cons, List.length_nil, Nat.zero_add, Nat.one_mul] at v1 v3
      rw [hflx] at v4 v5
      have hrcl : rc.toList.length = len * 2 := by rw [Array.length_toList, a1.len, hcl]
      have hvs : ∀ j u, [cv 0, cv 1][j]? = some u → w.cell? ⟨vb, vo + j, none⟩ = some u := fun j u hj => by
        match j, hj with
        | 0, hj => cases hj; exact (v3 0 (by omega)).1
        | 1, hj => cases hj; exact (v3 1 (by omega)).1
      have hvr : ∀ j c, x.cells[j]? = some c → ∃ u, [cv 0, cv 1][j]? = some u ∧ VR hp.length L w c u := fun j c hj => by
        have hj2 : j < 2 := by rw [← hx2]; exact (List.getElem?_eq_some_iff.1 hj).1
        match j, hj2, hj with
        | 0, _, hj => exact ⟨_, rfl, v5 0 c hj⟩
        | 1, _, hj => exact ⟨_, rfl, v5 1 c hj⟩
      have h1c : ∀ u ∈ rc.toList, u.oneCell' = true := a1.ones
      have h1v : ∀ u ∈ [cv 0, cv 1], u.oneCell' = true := by
        have : CR hp.length L w x.cells [cv 0, cv 1] := ⟨by rw [hx2]; rfl, fun j c u hj hu => by
          obtain ⟨u', k1, k2⟩ := hvr j c hj
          rw [k1] at hu; cases hu; exact k2⟩
        exact this.allOne v4
      obtain ⟨i1, i2, i3⟩ := hI.kill b
      have hdl : (rc.toList.drop (m * 2)).length = (len - m) * 2 := by rw [List.length_drop, hrcl]; omega
      have hread : ∀ j u, rc.toList[j]? = some u → w.cell? ⟨p.1, p.2 + j, none⟩ = some u := fun j u hj => a2 j u (by rwa [Array.getElem?_toList] at hj)
      have hnewl : (cs.take (m * 2) ++ (x.cells ++ cs.drop (m * 2))).length = (len + 1) * 2 := by
        simp only [List.length_append, List.length_take, List.length_drop, hx2, hcl]; omega
      have hcs0 : w.cell? ⟨p.1, p.2 + 0, none⟩ = some rc.toList[0] := hread 0 _ (List.getElem?_eq_getElem (by omega))
      obtain ⟨tB, kB, hsb, hkB⟩ := shape_of hcs0
      obtain ⟨tA, kA, hsa, hkA⟩ := shape_of (v3 0 (by omega)).1
      by_cases hroom : len + 1 ≤ cap
      · -- in place
        have hap : vb = p.1 → p.2 + (len + 1) * 2 ≤ vo ∨ vo + 2 ≤ p.2 := fun e => by
          subst e
          rcases Nat.lt_or_ge vo (p.2 + (len + 1) * 2) with g1 | g1
          · refine .inr ?_
            rcases Nat.lt_or_ge (vo + 1) p.2 with g2 | g2
            · omega
            · exfalso
              by_cases g3 : p.2 ≤ vo
              · have e1 := hwho (vo - p.2) (by omega)
                have e2 := (v3 0 (by omega)).2
                rw [show p.2 + (vo - p.2) = vo + 0 by omega] at e1
                rw [e1] at e2; cases e2
              · have e1 := hwho 0 (by omega)
                have e2 := (v3 1 (by omega)).2
                rw [show p.2 + 0 = vo + 1 by omega] at e1
                rw [e1] at e2; cases e2
          · exact .inl g1
        have hsp : ∀ j, j < (len + 1) * 2 → (w.cell? ⟨p.1, p.2 + j, none⟩).isSome = true := fun j hj => by
          have hle : (len + 1) * 2 ≤ cap * 2 := Nat.mul_le_mul_right _ hroom
          obtain ⟨_, ⟨u, hu⟩, _⟩ := hI.own _ _ _ (hwho j (by omega))
          rw [hu]; rfl
        have hle2 : (len + 1) * 2 ≤ cap * 2 := Nat.mul_le_mul_right _ hroom
        have w1 := wrote_drew (w := w) (rb := p.1) (lo := p.2 + (m + 1) * 2) (vs := rc.toList.drop (m * 2)) fun j hj => by rw [Nat.add_assoc]; exact hsp _ (by omega)
        have w2 := wrote_setCells (w := w.drew.setCells p.1 (p.2 + (m + 1) * 2) (rc.toList.drop (m * 2))) (rb := p.1) (lo := p.2 + m * 2) (vs := [cv 0, cv 1]) fun j hj => by
          simp only [List.length_cons, List.length_nil] at hj
          obtain ⟨u, hu⟩ := w1.some (Option.isSome_iff_exists.1 (hsp (m * 2 + j) (by omega)))
          rw [Nat.add_assoc, hu]; rfl
        have hw := wrote_two (vs := [cv 0, cv 1]) (lo := p.2 + m * 2) (ws := rc.toList.drop (m * 2)) (rb := p.1) (by simp only [List.length_cons, List.length_nil]; rw [show p.2 + m * 2 + (0 + 1 + 1) = p.2 + (m + 1) * 2 by omega]; exact w1) w2
        obtain ⟨L', k1, k2, k3, k4, k5, k6⟩ := i1.reown (b := b) (rb := p.1) (lo := p.2) (m := cap * 2) (by simp) hwho (s0 := m * 2) (vs := [cv 0, cv 1] ++ rc.toList.drop (m * 2)) hw (by simp only [List.length_append, List.length_cons, List.length_nil, hdl]; omega) (cs := cs.take (m * 2) ++ (x.cells ++ cs.drop (m * 2))) (by rw [hnewl]; exact hle2) (fun j c hj => by
          rw [List.length_set]
          rw [List.getElem?_append] at hj
          split at hj
          · rename_i hlt1
            rw [List.length_take] at hlt1
            rw [List.getElem?_take_of_lt (by omega)] at hj
            obtain ⟨_, q2, u, q3, q4⟩ := hp2 j c hj
            exact ⟨q2, u, by rw [hw.out _ _ (fun _ => .inl (by omega))]; exact q3, q4.mono (Nat.le_refl _) i2⟩
          · rename_i hlt1
            rw [List.length_take, hcl, Nat.min_eq_left (by omega)] at hlt1 hj
            rw [List.getElem?_append] at hj
            have pos : p.2 + j = p.2 + m * 2 + (j - m * 2) := by omega
            split at hj
            · rename_i hlt2
              rw [hx2] at hlt2
              obtain ⟨u, q1, q2⟩ := hvr _ c hj
              exact ⟨v4 _ c hj, u, by rw [pos]; exact hw.inn _ u (by rw [List.getElem?_append_left (by simpa using hlt2)]; exact q1), q2.mono (Nat.le_refl _) i2⟩
            · rename_i hlt2
              rw [hx2] at hlt2 hj
              rw [List.getElem?_drop] at hj
              have hjl := (List.getElem?_eq_some_iff.1 hj).1
              have hrj : rc.toList[m * 2 + (j - m * 2 - 2)]? = some (rc.toList[m * 2 + (j - m * 2 - 2)]'(by omega)) := List.getElem?_eq_getElem _
              refine ⟨hone _ c hj, _, by rw [pos]; exact hw.inn _ _ (by rw [List.getElem?_append_right (by simp; omega), List.getElem?_drop]; exact hrj), ?_⟩
              have := (CR.of_acr a1).2 _ c _ hj hrj
              exact this.mono (Nat.le_refl _) i2)
        rw [List.length_set] at k1 k2 k3 k5
        rw [setAt_eq]
        have fin : ∀ e w', (e = Ending.returned (.slice (some ⟨p.1, p.2, none⟩) (len + 1) cap) ∧ w' = (w.drew.setCells p.1 (p.2 + (m + 1) * 2) (rc.toList.drop (m * 2))).setCells p.1 (p.2 + m * 2) [cv 0, cv 1]) → CallPost C B w0 L w hp.length (.arr 2 hp.length 0 (len + 1)) (hp.set b .dead ++ [.cells (cs.take (m * 2) ++ (x.cells ++ cs.drop (m * 2)))]) e w' := fun e w' ⟨he, hw'⟩ => by
          subst he hw'
          refine ⟨_, L', rfl, k4, i2.trans (Nat.le_refl _) k5, (i3 _).trans (Nat.le_refl _) (k6 _), Nat.le_of_eq hw.size.symm, by simp, ?_⟩
          refine .arr _ _ 0 _ _ cap (by simp) hroom fun p' hp' => ?_
          rw [k1] at hp'; cases hp'
          refine ⟨rfl, fun j hj => k3 j hj, ?_, .inr ⟨?_, fun o => (hw.fro _).trans (hfro o)⟩⟩
          · rw [k2, hnewl, Nat.zero_add]; exact hle2
          · rw [hw.size]; exact low hcs0
        exact (hS.shift p.1 p.2 len cap m vb vo vc rc.toList [cv 0, cv 1] w hlt hroom (by omega) hrcl rfl hread hsp hfro hvs h1c h1v hap tA tB kA kB hsa hsb hkA).mono fin
      · -- a new row
        obtain ⟨k, hk⟩ : ∃ k, len + 1 = m + k := ⟨len + 1 - m, by omega⟩
        obtain ⟨ys, hys⟩ := chunk_ex m cs (by omega)
        obtain ⟨c1, c2, c3, c4⟩ := chunk_ok (by decide) m cs ys hone hys
        have hsm : VR hp.length L w (.arr 2 b 0 m) (.slice (some ⟨p.1, p.2, none⟩) m cap) := by
          cases hs0' with
          | arr _ _ _ _ _ _ q1 q2 q3 => exact .arr _ _ _ _ _ _ q1 (by omega) q3
        have hE := elems_ok (P := P) hI (by decide : (2 : Nat) ≠ 0) (show elems hp 2 (.arr 2 b 0 m) = some ys by simp [elems, hcs, hys]) hsm
        have hA2 := appElems_ok hT hI (t2 := tI) (x := .int .i64 (k : Int)) (xs := List.replicate k z) hei hinfo (by rw [hs2]; decide) (by
          have e1 : decide ((0 : Int) ≤ (k : Int)) = true := decide_eq_true (by omega)
          have e2 : decide ((k : Int) * ((32 : Nat) : Int) ≤ 140737488355328) = true := decide_eq_true (by omega)
          have e3 : decide ((k : Int) ≤ 140737488355328) = true := decide_eq_true (by omega)
          have e4 : (z.cells.length == 2) = true := by simp [hz2]
          simp only [appElems, hin, hz, hb32, hs2, e1, e2, e3, e4, Int.toNat_natCast]
          rfl) (.int _ _)
        have e32 : i0.bytes = 32 := hby.trans hb32
        have e2 : i0.size = 2 := hsz.trans hs2
        rw [← e2] at hE
        obtain ⟨c0, G, g1, g2, rest, g3, g4⟩ := run_append_new (ts := []) (ty := tS) (ty_slice hT hti) hinfo hzi hA2 hE c1 (by rw [List.length_replicate]; omega) (by rw [List.length_replicate, e32]; omega) (by rw [e32]; decide)
        rw [List.length_replicate] at g2 g3 g4
        have hzc : zv.cells.size = 2 := hzl.trans hs2
        have hc0 : c0.size = (m + k) * 2 := by
          have hfz : (flat (List.replicate k z)).length = k * 2 := by
            rw [flat_length (sz := 2) _ (fun y hy => by rw [List.eq_of_mem_replicate hy]; exact hz2), List.length_replicate]
          rw [g1.len, flat_append, List.length_append, c3, List.length_take, hfz, hcl]; omega
        have hmk : m + k = len + 1 := hk.symm
        rw [hmk] at g2 g3 g4 hc0
        have hROW : ∀ j, j < (len + 1) * 2 → (c0 ++ rest)[j]? = c0[j]? := fun j hj => Array.getElem?_append_left (by omega)
        have hgr := hS.grow p.1 p.2 len cap m vb vo vc G rc.toList [cv 0, cv 1] (c0 ++ rest) w hlt hlc (by omega) (by omega) hrcl rfl hread hvs h1c h1v (by rw [Array.size_append, hc0]; omega) g2 (by
          have : (len : Int) + 1 - (m : Int) = (k : Int) := by omega
          rw [this]; exact g4)
        -- the new row as it stands in the end
        have sz0 : (c0 ++ rest).size = G * 2 := by rw [Array.size_append, hc0, g3, hzc]; omega
        have ha0 := alloc_drew w (c0 ++ rest) tE
        have isz : ∀ j, j < G * 2 → ((w.drew.alloc (.cells (c0 ++ rest) tE)).cell? ⟨w.heap.size, j, none⟩).isSome = true := fun j hj => by
          rw [ha0.new, Array.getElem?_eq_getElem (by omega)]; rfl
        have u1 := wrote_setCells (w := (w.alloc (.cells (c0 ++ rest) tE)).drew) (rb := w.heap.size) (lo := m * 2) (vs := [cv 0, cv 1]) fun j hj => by
          simp only [List.length_cons, List.length_nil] at hj
          exact isz (m * 2 + j) (by omega)
        have u2 := wrote_drew (w := (w.alloc (.cells (c0 ++ rest) tE)).drew.setCells w.heap.size (m * 2) [cv 0, cv 1]) (rb := w.heap.size) (lo := (m + 1) * 2) (vs := rc.toList.drop (m * 2)) fun j hj => by
          obtain ⟨u, hu⟩ := u1.some (Option.isSome_iff_exists.1 (isz ((m + 1) * 2 + j) (by omega)))
          rw [hu]; rfl
        obtain ⟨W, hW⟩ : ∃ W, W = (((w.alloc (.cells (c0 ++ rest) tE)).drew.setCells w.heap.size (m * 2) [cv 0, cv 1]).drew).setCells w.heap.size ((m + 1) * 2) (rc.toList.drop (m * 2)) := ⟨_, rfl⟩
        rw [← hW] at hgr u2
        have hNo : ∀ (r o : Nat), r < w.heap.size → W.cell? ⟨r, o, none⟩ = w.cell? ⟨r, o, none⟩ := fun r o hr => by
          rw [u2.out r o (fun e => by omega), u1.out r o (fun e => by omega)]
          exact (ha0.old ⟨r, o, none⟩ hr).1
        let c' : Array Value := (Array.range (G * 2)).map fun j => (W.cell? ⟨w.heap.size, j, none⟩).getD default
        have hWs : ∀ j, j < G * 2 → (W.cell? ⟨w.heap.size, j, none⟩).isSome = true := fun j hj => by
          obtain ⟨u, hu⟩ := u2.some (u1.some (Option.isSome_iff_exists.1 (isz j hj)))
          rw [hu]; rfl
        have hc'g : ∀ j u, W.cell? ⟨w.heap.size, j, none⟩ = some u → j < G * 2 → c'[j]? = some u := fun j u hu hj => by
          show ((Array.range (G * 2)).map _)[j]? = _
          rw [Array.getElem?_map, Array.getElem?_range, if_pos hj]
          simp only [Option.map_some, hu, Option.getD_some]
        have haW : Alloc w W c' := {
          size := u2.size.trans (u1.size.trans ha0.size)
          old := fun x hx => ⟨by
            obtain ⟨xb, xo, xs⟩ := x
            cases xs with
            | none => exact hNo xb xo hx
            | some q =>
              have hn : ∀ (w : World), w.cell? ⟨xb, xo, some q⟩ = none := fun w => by
                unfold World.cell?; dsimp only; split <;> simp
              rw [hn, hn], (u2.fro x).trans ((u1.fro x).trans (ha0.old x hx).2)⟩
          new := fun o => by
            by_cases ho : o < G * 2
            · obtain ⟨u, hu⟩ := Option.isSome_iff_exists.1 (hWs o ho)
              rw [hu, hc'g o u hu ho]
            · have hgl : (len + 1) * 2 ≤ G * 2 := Nat.mul_le_mul_right _ g2
              rw [u2.out _ _ (fun _ => .inr (by rw [hdl]; omega)), u1.out _ _ (fun _ => .inr (by simp only [List.length_cons, List.length_nil]; omega))]
              show (w.drew.alloc (.cells (c0 ++ rest) tE)).cell? _ = _
              rw [ha0.new, Array.getElem?_eq_none (by omega)]
              show none = ((Array.range (G * 2)).map _)[o]?
              rw [Array.getElem?_map, Array.getElem?_range, if_neg ho]; rfl
          fro := fun o ho => by
            rw [u2.fro]
            show ((w.alloc (.cells (c0 ++ rest) tE)).drew.setCells w.heap.size (m * 2) [cv 0, cv 1]).frozen? _ = _
            rw [u1.fro]
            exact World.frozen?_alloc_new w.drew _ tE o
          below := fun B w0 hB hb => u2.below B w0 (fun _ => hB) (u1.below B w0 (fun _ => hB) (ha0.below B w0 hB hb))
          obj := ha0.obj.trans (u1.obj.trans u2.obj) }
        have hfroW : ∀ o, W.frozen? ⟨w.heap.size, o, none⟩ = false := fun o => by
          rw [u2.fro]
          show ((w.alloc (.cells (c0 ++ rest) tE)).drew.setCells w.heap.size (m * 2) [cv 0, cv 1]).frozen? _ = _
          rw [u1.fro]
          exact World.frozen?_alloc_new w.drew _ tE o
        have hgl : (len + 1) * 2 ≤ G * 2 := Nat.mul_le_mul_right _ g2
        have hcell : ∀ (j : Nat) c, (cs.take (m * 2) ++ (x.cells ++ cs.drop (m * 2)))[j]? = some c → c.one = true ∧ ∃ u, c'[j]? = some u ∧ VR (hp.set b .dead).length { L with loc := fun k => if k = b then none else L.loc k } w c u := fun j c hj => by
          rw [List.length_set]
          have hjl := (List.getElem?_eq_some_iff.1 hj).1
          rw [hnewl] at hjl
          rw [List.getElem?_append] at hj
          split at hj
          · rename_i hlt1
            rw [List.length_take] at hlt1
            rw [List.getElem?_take_of_lt (by omega)] at hj
            have hcf : (flat (ys ++ List.replicate k z))[j]? = some c := by
              rw [flat_append, List.getElem?_append_left (by rw [c3, List.length_take]; omega), c3, List.getElem?_take_of_lt (by omega)]; exact hj
            refine ⟨hone j c hj, c0.getD j default, hc'g j _ ?_ (by omega), (g1.vr j c hcf).mono (Nat.le_refl _) i2⟩
            rw [u2.out _ _ (fun _ => .inl (by omega)), u1.out _ _ (fun _ => .inl (by omega))]
            show (w.drew.alloc (.cells (c0 ++ rest) tE)).cell? _ = _
            rw [ha0.new, hROW j (by omega)]
            have : j < c0.size := by omega
            simp [Array.getD, this]
          · rename_i hlt1
            rw [List.length_take, hcl, Nat.min_eq_left (by omega)] at hlt1 hj
            rw [List.getElem?_append] at hj
            split at hj
            · rename_i hlt2
              rw [hx2] at hlt2
              obtain ⟨u, q1, q2⟩ := hvr _ c hj
              refine ⟨v4 _ c hj, u, hc'g j u ?_ (by omega), q2.mono (Nat.le_refl _) i2⟩
              rw [u2.out _ _ (fun _ => .inl (by omega))]
              have := u1.inn (j - m * 2) u q1
              rw [show m * 2 + (j - m * 2) = j by omega] at this
              exact this
            · rename_i hlt2
              rw [hx2] at hlt2 hj
              rw [List.getElem?_drop] at hj
              have hrj : rc.toList[m * 2 + (j - m * 2 - 2)]? = some (rc.toList[m * 2 + (j - m * 2 - 2)]'(by omega)) := List.getElem?_eq_getElem _
              refine ⟨hone _ c hj, _, hc'g j _ ?_ (by omega), ((CR.of_acr a1).2 _ c _ hj hrj).mono (Nat.le_refl _) i2⟩
              have := u2.inn (j - m * 2 - 2) _ (by rw [List.getElem?_drop]; exact hrj)
              rw [show (m + 1) * 2 + (j - m * 2 - 2) = j by omega] at this
              exact this
        obtain ⟨L', k1, k2, k3, k4, k5, k6⟩ := i1.addBlk haW hcell
        rw [List.length_set] at k1 k2 k3 k5
        rw [setAt_eq]
        refine hgr.mono fun e w' ⟨he, hw'⟩ => ?_
        subst he hw'
        refine ⟨_, L', rfl, k4, i2.trans (Nat.le_refl _) k5, (i3 _).trans (Nat.le_refl _) (k6 _), by rw [haW.size]; omega, by simp, ?_⟩
        refine .arr _ _ 0 _ _ G (by simp) g2 fun p' hp' => ?_
        rw [k1] at hp'; cases hp'
        refine ⟨rfl, fun j hj => by rw [Nat.zero_add]; exact k3 j (by show j < ((Array.range (G * 2)).map _).size; simpa using hj), ?_, .inr ⟨by rw [haW.size]; exact Nat.lt_succ_self _, hfroW⟩⟩
        rw [k2, hnewl, Nat.zero_add]; exact hgl
    · obtain rfl : m = len := by omega
      obtain ⟨ys, hys⟩ := chunk_ex m cs (by omega)
      obtain ⟨c1, c2, c3, c4⟩ := chunk_ok (by decide) m cs ys hone hys
      refine theEnd m _ _ rfl ?_ ⟨_, cap, rfl, by simp, by simp, hlc⟩
      have n1 : elems hp 2 (.arr 2 b 0 m) = some ys := by simp [elems, hcs, hys]
      have n2 : elems hp 2 (.lit 2 own [x]) = some [x] := by simp [elems]
      have n3 : isSlc (.arr 2 b 0 m) = true := rfl
      have n4 : isArr (.arr 2 b 0 m) = true := rfl
      have e0 : decide ((m + 1) * 32 ≤ 140737488355328) = true := decide_eq_true hbig
      have e1 : decide ((m + 1) * 2 ≤ cs.length) = false := decide_eq_false (by omega)
      have e2 : flat (ys ++ [x]) = cs.take (m * 2) ++ (x.cells ++ cs.drop (m * 2)) := by
        rw [flat_append, c3, hflx, List.drop_of_length_le (by omega), List.append_nil]
      simp only [appendE, hti, hei, appElems, htv, hs2, n1, n2, hb32, n3, n4, c1, List.length_cons, List.length_nil, Nat.zero_add, hcs, decide_eq_true hfl, e0, e1, e2]
      rfl
  · cases h
end Go.Proofs.YtgbheglnmdnkoaaGreatDoor.E
