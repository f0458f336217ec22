/- Steps of the seat's proofs: an evaluator of the program's code, its soundness, and what the functions come to. -/
import Derived.Test.YtgbheglnmdnkoaaGreatDoorEaa
import Derived.Lib.ConvBytes
import Derived.Laws.BytesString
import Derived.MapKept
set_option linter.unusedSimpArgs false
set_option linter.unusedVariables false
namespace Go.Proofs.YtgbheglnmdnkoaaGreatDoor.E
open Go Go.RowKit
section
variable {P:Program} {C:Cfg}
theorem run_newVar {t:TypeId} {v:Value} (w:World):(newVar t v).run P w = .ok ⟨w.heap.size,0,none⟩ (w.alloc (.cells v.cells t)):=run_newRow w
theorem ACR.of_value {n:Nat} {L:Lay} {w:World} {x:AV} {v:Value} (h:VR n L w x v) (hn:x.noTup=true):ACR n L w x.cells v.cells where
 len:=by have:=h.cells.1;simpa using this
 one:=h.ones hn
 vr i y hy:=by
  have hc:=h.cells
  have hlt:i < v.cells.size:=by have:=(List.getElem?_eq_some_iff.1 hy).1;have:=hc.1;simp at this;omega
  have:=hc.2 i y v.cells[i] hy (by simp [hlt])
  simpa [Array.getD,hlt] using this
theorem newBox {B base:Nat} {w0 w:World} {L:Lay} {hp:List Blk} (hI:Inv C.glob B w0 L w hp) (hbase:base≤w.heap.size) {cs:List AV} {c:Array Value} (hx:ACR hp.length L w cs c) (t:TypeId) (d:Nat) :
  ∃ L',Inv C.glob B w0 L' (w.alloc (.cells c t)) hp∧Ext hp.length L w L' (w.alloc (.cells c t))∧(∀ s,KeepLoc s L w L' (w.alloc (.cells c t))) ∧
   Boxed hp.length L' (w.alloc (.cells c t)) base d cs (.pointer (some ⟨w.heap.size,0,none⟩)):=by
 have ha:=alloc_alloc w c t
 obtain ⟨k1,k2,k3⟩:=hI.addRow ha (fun o=>if o < c.size then .loc d else .none) (fun o=>⟨fun b=>by split <;> simp,fun g=>by split <;> simp⟩)
 refine ⟨_,k1,k2,k3,w.heap.size,rfl,hbase,by simp,fun j x hj => ?_⟩
 have hlt:j < c.size:=by rw [hx.len];exact (List.getElem?_eq_some_iff.1 hj).1
 refine ⟨by rw [Lay.add_eq,if_pos hlt],ha.fro j hlt,hx.one j x hj,c.getD j default, ?_,(hx.vr j x hj).mono (Nat.le_refl _) k2⟩
 rw [ha.new];simp [Array.getD,hlt]
theorem newHeap {B:Nat} {w0 w:World} {L:Lay} {hp:List Blk} (hI:Inv C.glob B w0 L w hp) {cs:List AV} {c:Array Value} (hx:ACR hp.length L w cs c) {w':World} {c':Array Value} (ha:Alloc w w' c')
  (hc:∀ (j:Nat) v,c[j]?=some v→c'[j]?=some v) :
  ∃ L',L'.loc hp.length=some (w.heap.size,0)∧L'.ext hp.length=cs.length∧(∀ o,o < c'.size→L'.who w.heap.size o = .blk hp.length)∧Inv C.glob B w0 L' w' (hp++[.cells cs])∧Ext hp.length L w L' w'∧∀ s,KeepLoc s L w L' w' :=
 hI.addBlk ha fun j x hj=>by
  have hlt:j < c.size:=by rw [hx.len];exact (List.getElem?_eq_some_iff.1 hj).1
  exact ⟨hx.one j x hj,c.getD j default,hc j _ (by simp [Array.getD,hlt]),hx.vr j x hj⟩
theorem len_ok {n:Nat} {L:Lay} {w:World} (hT:TysOK P C) {t:TypeId} {ts:List TypeId} {x:AV} {v:Value} {m:Nat} {ty:TypeId}
  (h:lenE C t x=some m) (hv:VR n L w x v):(Builtin.len_ (t::ts).toArray ty #[v]).run P w = .ok (.int .i64 m) w:=by
 unfold lenE at h
 split at h
 ·rename_i k e _ _ _ _ hti
  obtain ⟨_,d,_,_,hd,_,_,hk, -⟩:=(hT t _ hti).ex
  dsimp only at hk
  cases d <;> simp only [tkOf,reduceCtorEq] at hk
  simp only [TK.array.injEq] at hk
  cases h
  obtain ⟨rfl,_⟩:=hk
  simp [Builtin.len_,run_underlying hd,goInt]
 ·rename_i hti
  obtain ⟨_,d,_,_,hd,_,_,hk, -⟩:=(hT t _ hti).ex
  dsimp only at hk
  cases d <;> simp only [tkOf,reduceCtorEq] at hk
  cases hv <;> simp only [strLen,Option.some.injEq,reduceCtorEq] at h
  case str l s hs =>
   have:s.size=m:=by rw [← h,← hs,Array.length_toList];rfl
   simp [Builtin.len_,run_underlying hd,goInt,this]
 ·rename_i hti
  obtain ⟨_,d,_,_,hd,_,_,hk, -⟩:=(hT t _ hti).ex
  dsimp only at hk
  cases d <;> simp only [tkOf,reduceCtorEq] at hk
  cases hv <;> simp only [slcLen,Option.some.injEq,reduceCtorEq] at h
  all_goals (subst h;simp [Builtin.len_,run_underlying hd,goInt])
 ·cases h
theorem cap_ok {n:Nat} {L:Lay} {w:World} (hT:TysOK P C) {t:TypeId} {ts:List TypeId} {x:AV} {v:Value} {m:Nat} {ty:TypeId}
  (h:capE C t x=some m) (hv:VR n L w x v):(Builtin.cap_ (t::ts).toArray ty #[v]).run P w = .ok (.int .i64 m) w:=by
 unfold capE at h
 split at h
 ·rename_i hti
  obtain ⟨_,d,_,_,hd,_,_,hk, -⟩:=(hT t _ hti).ex
  dsimp only at hk
  cases d <;> simp only [tkOf,reduceCtorEq] at hk
  split at h
  ·cases h;cases hv;simp [Builtin.cap_,run_underlying hd,goInt]
  ·cases h
   cases hv with
   | lit0=>simp [Builtin.cap_,run_underlying hd,goInt]
   | lit _ _ _ _ _ cap _ _ _ _ _ _ ho =>
    have ho:cap=_:=ho
    subst ho
    simp [Builtin.cap_,run_underlying hd,goInt]
  ·cases h
 ·cases h
theorem minE_ok {n:Nat} {L:Lay} {w:World} {mx:Bool} {xs:List AV} {vs:List Value} {x:AV} (h:minE mx xs=some x) (hv:CR n L w xs vs) (ts:Array TypeId) (ty:TypeId) :
  ∃ rv,((if mx then Builtin.max_ else Builtin.min_) ts ty vs.toArray).run P w = .ok rv w∧VR n L w x rv:=by
 unfold minE at h
 split at h
 ·rename_i k a k' b
  cases hb:decide (k=k') with
  | false=>rw [hb] at h;cases h
  | true =>
   rw [hb,cond_true rfl] at h
   have hkk:k=k':=by simpa using hb
   subst hkk
   cases h
   match vs,hv with
   | [v1,v2],hv =>
    have h1:=intOf_ok (hv.2 0 _ v1 rfl rfl)
    have h2:=intOf_ok (hv.2 1 _ v2 rfl rfl)
    subst h1;subst h2
    cases mx with
    | true =>
     refine ⟨.int k (if b > a then b else a),by simp [Builtin.max_,Builtin.max2], ?_⟩
     have:(bif true then (bif decide (a < b) then b else a) else (bif decide (b < a) then b else a))=if b > a then b else a:=by
      by_cases h:a < b <;> simp [h]
     rw [this];exact .int _ _
    | false =>
     refine ⟨.int k (if b < a then b else a),by simp [Builtin.min_,Builtin.min2], ?_⟩
     have:(bif false then (bif decide (a < b) then b else a) else (bif decide (b < a) then b else a))=if b < a then b else a:=by
      by_cases h:b < a <;> simp [h]
     rw [this];exact .int _ _
   | [],hv=>have:=hv.1;simp at this
   | [_],hv=>have:=hv.1;simp at this
   | _::_::_::_,hv=>have:=hv.1;simp at this
 ·cases h
theorem bnd_ok {n:Nat} {L:Lay} {w:World} {x:AV} {d m y:Nat} {v:Value} {code:BoundsCode} (h:bnd (some x) d=some m) (hv:VR n L w x v) (hle:m≤y):(Instr.sliceBound v y code).run P w = .ok m w:=by
 unfold bnd at h
 split at h
 ·rename_i heq;cases heq
 ·rename_i k i heq
  cases heq
  cases hb:decide (i < 0) with
  | true=>rw [hb] at h;cases h
  | false =>
   rw [hb,cond_false rfl] at h
   cases h
   have h0:0≤i:=by simpa using hb
   cases hv
   have:i≤y:=by omega
   simp [Instr.sliceBound,asIntOf,h0,this]
 ·cases h
def OVR (n:Nat) (L:Lay) (w:World):Option AV→Option Value→Prop
 | none,none=>True
 | some x,some v=>VR n L w x v
 | _,_=>False
theorem bounds_ok {n:Nat} {L:Lay} {w:World} {lo hi mx:Option AV} {vlo vhi vmx:Option Value} (h1:OVR n L w lo vlo) (h2:OVR n L w hi vhi) (h3:OVR n L w mx vmx) {isS:Bool} {len cap l h m:Nat}
  (hl:bnd lo 0=some l) (hh:bnd hi len=some h) (hm:bnd mx cap=some m) (hlh:l≤h) (hhm:h≤m) (hmc:m≤cap) (hx:mx.isSome=true→hi.isSome=true) :
  (Instr.sliceBounds isS len cap vlo vhi vmx).run P w = .ok (l,h,m) w:=by
 have bl:∀ v,vlo=some v→∀ code,(Instr.sliceBound v h code).run P w = .ok l w:=fun v hv code=>by
  subst hv
  cases lo with
  | none=>exact h1.elim
  | some x=>exact bnd_ok hl h1 hlh
 have bl0:vlo=none→l=0:=fun hv=>by
  subst hv
  cases lo with
  | none=>simp only [bnd,Option.some.injEq] at hl;exact hl.symm
  | some x=>exact h1.elim
 have bh:∀ v,vhi=some v→∀ code,(Instr.sliceBound v m code).run P w = .ok h w:=fun v hv code=>by
  subst hv
  cases hi with
  | none=>exact h2.elim
  | some x=>exact bnd_ok hh h2 hhm
 have bh0:vhi=none→h=len∧vmx=none:=fun hv=>by
  subst hv
  cases hi with
  | none =>
   simp only [bnd,Option.some.injEq] at hh
   refine ⟨hh.symm, ?_⟩
   cases mx with
   | none=>cases vmx with
    | none=>rfl
    | some _=>exact h3.elim
   | some _=>simp at hx
  | some x=>exact h2.elim
 have bm:∀ v,vmx=some v→∀ code,(Instr.sliceBound v cap code).run P w = .ok m w:=fun v hv code=>by
  subst hv
  cases mx with
  | none=>exact h3.elim
  | some x=>exact bnd_ok hm h3 hmc
 have bm0:vmx=none→m=cap:=fun hv=>by
  subst hv
  cases mx with
  | none=>simp only [bnd,Option.some.injEq] at hm;exact hm.symm
  | some x=>exact h3.elim
 cases vmx with
 | none =>
  have:=bm0 rfl;subst this
  cases vhi with
  | none =>
   have:=(bh0 rfl).1;subst this
   cases vlo with
   | none=>have:=bl0 rfl;subst this;simp [Instr.sliceBounds]
   | some v=>simp [Instr.sliceBounds,bl v rfl]
  | some u =>
   cases vlo with
   | none=>have:=bl0 rfl;subst this;simp [Instr.sliceBounds,bh u rfl]
   | some v=>simp [Instr.sliceBounds,bh u rfl,bl v rfl]
 | some q =>
  cases vhi with
  | none=>have:=(bh0 rfl).2;cases this
  | some u =>
   cases vlo with
   | none=>have:=bl0 rfl;subst this;simp [Instr.sliceBounds,bm q rfl,bh u rfl]
   | some v=>simp [Instr.sliceBounds,bm q rfl,bh u rfl,bl v rfl]
theorem drop_take_get {α:Type} (xs:List α) (l k j:Nat) (h:j < k):((xs.drop l).take k)[j]?=xs[l + j]?:=by
 rw [List.getElem?_take_of_lt h,List.getElem?_drop]
theorem flat_drop {sz:Nat}:∀ (xs:List AV) (l:Nat),(∀ x ∈ xs,x.cells.length=sz)→flat (xs.drop l)=(flat xs).drop (l * sz)
 | [],l,_=>by simp [flat]
 | x::xs,0,_=>by simp
 | x::xs,l + 1,h=>by
  have hx:=h x (List.mem_cons_self ..)
  simp only [List.drop_succ_cons,flat,flat_drop xs l fun y hy=>h y (List.mem_cons_of_mem _ hy)]
  have e:(l + 1) * sz=x.cells.length + l * sz:=by rw [Nat.succ_mul];omega
  rw [e,List.drop_length_add_append]
theorem flat_take {sz:Nat}:∀ (xs:List AV) (l:Nat),(∀ x ∈ xs,x.cells.length=sz)→flat (xs.take l)=(flat xs).take (l * sz)
 | [],l,_=>by simp [flat]
 | x::xs,0,_=>by simp [flat]
 | x::xs,l + 1,h=>by
  have hx:=h x (List.mem_cons_self ..)
  simp only [List.take_succ_cons,flat,flat_take xs l fun y hy=>h y (List.mem_cons_of_mem _ hy)]
  have e:(l + 1) * sz=x.cells.length + l * sz:=by rw [Nat.succ_mul];omega
  rw [e,List.take_length_add_append]
theorem lit_sub {n:Nat} {L:Lay} {w:World} {sz:Nat} {xs:List AV} {rb ro:Nat} {cv:Nat→Value} {l h cap:Nat} {own:Own} (hs:∀ x ∈ xs,x.cells.length=sz)
  (h1:∀ j,j < xs.length * sz→w.cell? ⟨rb,ro + j,none⟩=some (cv j)∧L.who rb (ro + j) = .imm) (ho:∀ (j:Nat) c,(flat xs)[j]?=some c→c.one=true) (h2:∀ (j:Nat) c,(flat xs)[j]?=some c→VR n L w c (cv j))
  (hlh:l≤h) (hhx:h≤xs.length) (hcap:h - l≤cap) (a:Addr) (ha:l < h→a=⟨rb,ro + l * sz,none⟩) (ha':a.spot=none) (hown:OwnOK L n own sz a.block a.off (h - l) cap) :
  VR n L w (.lit sz own ((xs.drop l).take (h - l))) (.slice (some a) (h - l) cap):=by
 have hlen:((xs.drop l).take (h - l)).length=h - l:=by simp;omega
 have hfl:∀ j,j < (h - l) * sz→(flat ((xs.drop l).take (h - l)))[j]?=(flat xs)[l * sz + j]?:=fun j hj=>by
  rw [flat_take _ _ (fun x hx=>hs x (List.mem_of_mem_drop hx)),flat_drop _ _ hs,drop_take_get _ _ _ _ hj]
 have hsz:(h - l) * sz + l * sz≤xs.length * sz:=by rw [← Nat.add_mul,Nat.sub_add_cancel hlh];exact Nat.mul_le_mul_right _ hhx
 have hflen:(flat ((xs.drop l).take (h - l))).length=(h - l) * sz:=by rw [flat_length _ (fun x hx=>hs x (List.mem_of_mem_drop (List.mem_of_mem_take hx))),hlen]
 have key:VR n L w (.lit sz own ((xs.drop l).take (h - l))) (.slice (some ⟨a.block,a.off,none⟩) ((xs.drop l).take (h - l)).length cap):=by
  refine .lit sz own _ a.block a.off cap (fun j=>cv (l * sz + j)) (by omega) (fun x hx=>hs x (List.mem_of_mem_drop (List.mem_of_mem_take hx))) (fun j hj => ?_) (fun j c hc => ?_) (fun j c hc => ?_) (by rw [hlen];exact hown)
  ·rw [hlen] at hj
   have hlt:l < h:=by
    rcases Nat.lt_or_ge l h with g | g
    ·exact g
    ·rw [show h - l=0 by omega] at hj;omega
   rw [ha hlt]
   have:=h1 (l * sz + j) (by omega)
   rw [← Nat.add_assoc] at this
   exact this
  ·have hj:j < (h - l) * sz:=by rw [← hflen];exact (List.getElem?_eq_some_iff.1 hc).1
   rw [hfl j hj] at hc;exact ho _ c hc
  ·have hj:j < (h - l) * sz:=by rw [← hflen];exact (List.getElem?_eq_some_iff.1 hc).1
   rw [hfl j hj] at hc;exact h2 _ c hc
 rw [hlen] at key
 obtain ⟨ab,ao,asp⟩:=a
 dsimp only at ha'
 subst ha'
 exact key
end
section
variable {P : Program} {C : Cfg}

theorem tk_string {d : TypeDesc} (h : tkOf d = .string) : d = .string := by cases d <;> simp_all [tkOf]
theorem tk_slice {d : TypeDesc} {e : TypeId} (h : tkOf d = .slice e) : d = .slice e := by cases d <;> simp_all [tkOf]
theorem tk_array {d : TypeDesc} {m : Nat} {e : TypeId} (h : tkOf d = .array m e) : d = .array m e := by cases d <;> simp_all [tkOf]
theorem tk_int {d : TypeDesc} {k : IntKind} (h : tkOf d = .int k) : d = .int k := by cases d <;> simp_all [tkOf]

theorem ty_string (hT : TysOK P C) {t : TypeId} {a b : Nat} {z : List AV} {q : Bool} (h : C.ty t = some ⟨.string, a, b, z, q⟩) : P.underlying t = some .string := by
  obtain ⟨_, d, _, _, hd, _, _, hk, -⟩ := (hT t _ h).ex
  rw [hd, tk_string hk.symm]
theorem ty_slice (hT : TysOK P C) {t e : TypeId} {a b : Nat} {z : List AV} {q : Bool} (h : C.ty t = some ⟨.slice e, a, b, z, q⟩) : P.underlying t = some (.slice e) := by
  obtain ⟨_, d, _, _, hd, _, _, hk, -⟩ := (hT t _ h).ex
  rw [hd, tk_slice hk.symm]
theorem ty_array (hT : TysOK P C) {t e : TypeId} {m a b : Nat} {z : List AV} {q : Bool} (h : C.ty t = some ⟨.array m e, a, b, z, q⟩) : P.underlying t = some (.array m e) := by
  obtain ⟨_, d, _, _, hd, _, _, hk, -⟩ := (hT t _ h).ex
  rw [hd, tk_array hk.symm]
theorem ty_int (hT : TysOK P C) {t : TypeId} {k : IntKind} {a b : Nat} {z : List AV} {q : Bool} (h : C.ty t = some ⟨.int k, a, b, z, q⟩) : P.underlying t = some (.int k) := by
  obtain ⟨_, d, _, _, hd, _, _, hk, -⟩ := (hT t _ h).ex
  rw [hd, tk_int hk.symm]
theorem ty_size (hT : TysOK P C) {t : TypeId} {ti : TI} (h : C.ty t = some ti) : ∃ i, P.info? t = some i ∧ i.size = ti.size ∧ i.bytes = ti.bytes := by
  obtain ⟨i, _, _, hi, _, hs, hb, -⟩ := (hT t _ h).ex
  exact ⟨i, hi, hs, hb⟩

theorem Addr.spot_add {a : Addr} {n : Nat} (h : a.spot = none) : (a.add n).spot = none := by
  unfold Addr.add; split <;> simp [h]

theorem bnd_some (x : AV) (d d' : Nat) : bnd (some x) d = bnd (some x) d' := by cases x <;> rfl

theorem VR.nilLit {n : Nat} {L : Lay} {w : World} {sz : Nat} {own : Own} (a : Addr) (cap : Nat) (ha : a.spot = none) (ho : OwnOK L n own sz a.block a.off 0 cap) : VR n L w (.lit sz own []) (.slice (some a) 0 cap) := by
  obtain ⟨ab, ao, asp⟩ := a
  dsimp only at ha
  subst ha
  exact .lit sz own [] ab ao cap (fun _ => default) (Nat.zero_le _) (fun x hx => by cases hx) (fun j hj => by simp at hj) (fun j c hc => by simp [flat] at hc) (fun j c hc => by simp [flat] at hc) ho

theorem sliceE_ok {B : Nat} {w0 w : World} {L : Lay} {st : St} {rt : Array Value} (hT : TysOK P C) (hI : Inv C.glob B w0 L w st.hp) {t : TypeId} {tv : TV} {va : Value} {lo hi mx : Option AV} {vlo vhi vmx : Option Value} {x : AV}
    (h : sliceE C st t tv lo hi mx = some x) (ha : OR st.hp.length L w st.tmps rt tv va) (h1 : OVR st.hp.length L w lo vlo) (h2 : OVR st.hp.length L w hi vhi) (h3 : OVR st.hp.length L w mx vmx) :
    ∃ rv, (Instr.sliceAt t va vlo vhi vmx).run P w = .ok rv w ∧ VR st.hp.length L w x rv := by
  unfold sliceE at h
  split at h
  · rename_i hti
    have hu := ty_string hT hti
    split at h
    · rename_i s
      split at h
      · rename_i l hh hl hhh
        cases hb : (decide (l ≤ hh) && decide (hh ≤ s.length)) with
        | false => rw [hb] at h; cases h
        | true =>
          rw [hb, cond_true rfl] at h
          cases h
          simp only [Bool.and_eq_true, decide_eq_true_eq] at hb
          have hvm : vmx = none := by cases vmx with | none => rfl | some _ => exact h3.elim
          subst hvm
          obtain ⟨b, rfl, hb1, hb2, hb3⟩ := strOf_ok ha
          have := bounds_ok (P := P) (isS := false) (len := b.size) (cap := b.size) h1 h2 h3 hl (by rw [hb3]; exact hhh) (m := b.size) rfl hb.1 (by rw [hb3]; exact hb.2) (Nat.le_refl _) (by simp)
          refine ⟨.string (b.extract l hh), by simp [Instr.sliceAt, Instr.slice, run_underlying hu, this], .str _ _ ?_⟩
          rw [ByteArray.data_extract, Array.toList_extract, hb1]
      · cases h
    · cases h
  · rename_i e _ _ _ _ hti
    have hu := ty_slice hT hti
    split at h
    · cases h
    · rename_i ei hei
      obtain ⟨eti, hinfo, hsz, _⟩ := ty_size hT hei
      split at h
      · -- nil
        split at h
        · rename_i g1 g2 g3
          cases hb : (mx.isSome && !hi.isSome) with
          | true => rw [hb] at h; cases h
          | false =>
            rw [hb, cond_false rfl] at h
            cases h
            cases ha
            have hx : mx.isSome = true → hi.isSome = true := fun q => by rw [q] at hb; simpa using hb
            have := bounds_ok (P := P) (isS := true) (len := 0) (cap := 0) h1 h2 h3 g1 g2 g3 (Nat.le_refl _) (Nat.le_refl _) (Nat.le_refl _) hx
            exact ⟨.slice none 0 0, by simp [Instr.sliceAt, Instr.slice, run_underlying hu, this, run_sizeOf hinfo], .nilS⟩
        · cases h
      · rename_i sz own xs
        cases ha with
        | lit0 _ _ a hpl =>
          split at h
          case h_2 => cases h
          rename_i l hh hl hhh
          cases hb : (!(decide (l ≤ hh) && decide (hh ≤ ([] : List AV).length) && sz == ei.size)) with
          | true => rw [hb] at h; cases h
          | false =>
          rw [hb, cond_false rfl] at h
          simp only [Bool.not_eq_false', Bool.and_eq_true, decide_eq_true_eq, beq_iff_eq, List.length_nil] at hb
          obtain ⟨⟨hlh, hhx⟩, hse⟩ := hb
          obtain rfl : hh = 0 := by omega
          obtain rfl : l = 0 := by omega
          have real : bnd mx 0 = some 0 → (mx.isSome = true → hi.isSome = true) → (Instr.sliceAt t (.slice (some a) 0 0) vlo vhi vmx).run P w = .ok (.slice (some a) 0 0) w := fun q1 q4 => by
            have := bounds_ok (P := P) (isS := true) (len := 0) (cap := 0) h1 h2 h3 hl hhh q1 (Nat.le_refl _) (Nat.le_refl _) (Nat.le_refl _) q4
            simp [Instr.sliceAt, Instr.slice, run_underlying hu, this, run_sizeOf hinfo]
          dsimp only at h
          split at h
          · rename_i m0
            split at h
            · rename_i m hhs hm
              cases hb2 : (!(decide (0 ≤ m) && decide (m ≤ ([] : List AV).length))) with
              | true => rw [hb2] at h; cases h
              | false =>
                rw [hb2, cond_false rfl] at h
                simp only [Bool.not_eq_false', Bool.and_eq_true, decide_eq_true_eq, List.length_nil] at hb2
                obtain rfl : m = 0 := by omega
                cases h
                exact ⟨_, real hm (fun _ => hhs), .lit0 _ _ a (by rfl)⟩
            · cases h
          · split at h
            · cases h; exact ⟨_, real rfl (fun q => by cases q), .lit0 _ _ a (by rfl)⟩
            · cases hpl
            · cases h; exact ⟨_, real rfl (fun q => by cases q), .lit0 _ _ a (by rfl)⟩
        | lit _ _ _ rb ro cap cv hc hs k1 ko k2 hown =>
        split at h
        · rename_i l hh hl hhh
          cases hb : (!(decide (l ≤ hh) && decide (hh ≤ xs.length) && sz == ei.size)) with
          | true => rw [hb] at h; cases h
          | false =>
            rw [hb, cond_false rfl] at h
            simp only [Bool.not_eq_false', Bool.and_eq_true, decide_eq_true_eq, beq_iff_eq] at hb
            obtain ⟨⟨hlh, hhx⟩, hse⟩ := hb
            have real : ∀ m, bnd mx cap = some m → hh ≤ m → m ≤ cap → (mx.isSome = true → hi.isSome = true) →
                (Instr.sliceAt t (.slice (some ⟨rb, ro, none⟩) xs.length cap) vlo vhi vmx).run P w = .ok (.slice (some (if m = l then ⟨rb, ro, none⟩ else (⟨rb, ro, none⟩ : Addr).add (l * sz))) (hh - l) (m - l)) w := fun m q1 q2 q3 q4 => by
              have := bounds_ok (P := P) (isS := true) (len := xs.length) (cap := cap) h1 h2 h3 hl hhh q1 hlh q2 q3 q4
              simp only [Instr.sliceAt, Instr.slice, Sem.run_bind, run_underlying hu, Result.andThen_ok, this, run_sizeOf hinfo, hsz, hse, Sem.run_pure]
              split <;> rfl
            have addr : ∀ m, hh ≤ m → l < hh → (if m = l then ⟨rb, ro, none⟩ else (⟨rb, ro, none⟩ : Addr).add (l * sz)) = ⟨rb, ro + l * sz, none⟩ := fun m q1 q2 => by
              rw [if_neg (by omega), Addr.plus]
            have spot : ∀ m, (if m = l then ⟨rb, ro, none⟩ else (⟨rb, ro, none⟩ : Addr).add (l * sz)).spot = none := fun m => by
              split
              · rfl
              · exact Addr.spot_add rfl
            dsimp only at h
            split at h
            · rename_i m0
              split at h
              · rename_i m hhs hm
                cases hb2 : (!(decide (hh ≤ m) && decide (m ≤ xs.length))) with
                | true => rw [hb2] at h; cases h
                | false =>
                  rw [hb2, cond_false rfl] at h
                  cases h
                  simp only [Bool.not_eq_false', Bool.and_eq_true, decide_eq_true_eq] at hb2
                  have hm' : bnd (some m0) cap = some m := (bnd_some m0 cap 0).trans hm
                  refine ⟨_, real m hm' hb2.1 (by omega) (fun _ => hhs), ?_⟩
                  refine lit_sub hs k1 ko k2 hlh hhx (by omega) _ (addr m hb2.1) (spot m) ?_
                  cases hq : (m == hh) with
                  | false => trivial
                  | true => show m - l = hh - l; have := beq_iff_eq.1 hq; omega
              · cases h
            · have q := real cap rfl (by omega) (Nat.le_refl _) (by simp)
              refine ⟨_, q, ?_⟩
              have vr : ∀ own', OwnOK L st.hp.length own' sz (if cap = l then ⟨rb, ro, none⟩ else (⟨rb, ro, none⟩ : Addr).add (l * sz)).block (if cap = l then ⟨rb, ro, none⟩ else (⟨rb, ro, none⟩ : Addr).add (l * sz)).off (hh - l) (cap - l) →
                  VR st.hp.length L w (.lit sz own' ((xs.drop l).take (hh - l))) (.slice (some (if cap = l then ⟨rb, ro, none⟩ else (⟨rb, ro, none⟩ : Addr).add (l * sz))) (hh - l) (cap - l)) := fun own' ho =>
                lit_sub hs k1 ko k2 hlh hhx (by omega) _ (addr cap (by omega)) (spot cap) ho
              split at h
              · cases h
                refine vr _ ?_
                cases hq : (hh == xs.length) with
                | false => trivial
                | true =>
                  have hown : cap = xs.length := hown
                  show cap - l = hh - l
                  have := beq_iff_eq.1 hq
                  omega
              · rename_i g s
                cases h
                refine vr _ ?_
                cases hq : (hh == xs.length && !(l == hh)) with
                | false => trivial
                | true =>
                  simp only [Bool.and_eq_true, beq_iff_eq, Bool.not_eq_true', beq_eq_false_iff_ne, ne_eq] at hq
                  obtain ⟨rfl, hne⟩ := hq
                  rw [addr cap (by omega) (by omega)]
                  obtain ⟨g1, g2⟩ := hown
                  refine ⟨g1, fun F hF => ?_⟩
                  obtain ⟨g3, g4⟩ := g2 F hF
                  refine ⟨by omega, fun he => ?_⟩
                  obtain ⟨g5, g6, g7, g8, g9⟩ := g4 (by omega)
                  refine ⟨g5, by omega, g7, ?_, by omega⟩
                  show ro + l * sz = _
                  rw [g8, Nat.add_assoc, ← Nat.add_mul]
                  congr 2
                  omega
              · cases h
                exact vr _ trivial
        · cases h
      · rename_i sz b off len
        cases ha with
        | arr _ _ _ _ a cap hbn hc ha =>
        split at h
        · rename_i l hh bcs hl hhh hbc
          obtain ⟨p, hp1, hql, hp2⟩ := hI.blks b bcs (blkCells_eq hbc)
          obtain ⟨rfl, hwho, hext, hpl⟩ := ha p hp1
          cases hb : (!(decide (l ≤ hh) && decide (hh ≤ len) && sz == ei.size)) with
          | true => rw [hb] at h; cases h
          | false =>
            rw [hb, cond_false rfl] at h
            simp only [Bool.not_eq_false', Bool.and_eq_true, decide_eq_true_eq, beq_iff_eq] at hb
            obtain ⟨⟨hlh, hhx⟩, hse⟩ := hb
            have real : ∀ m, bnd mx cap = some m → hh ≤ m → m ≤ cap → (mx.isSome = true → hi.isSome = true) →
                (Instr.sliceAt t (.slice (some ⟨p.1, p.2 + off, none⟩) len cap) vlo vhi vmx).run P w = .ok (.slice (some (if m = l then ⟨p.1, p.2 + off, none⟩ else (⟨p.1, p.2 + off, none⟩ : Addr).add (l * sz))) (hh - l) (m - l)) w := fun m q1 q2 q3 q4 => by
              have := bounds_ok (P := P) (isS := true) (len := len) (cap := cap) h1 h2 h3 hl hhh q1 hlh q2 q3 q4
              simp only [Instr.sliceAt, Instr.slice, Sem.run_bind, run_underlying hu, Result.andThen_ok, this, run_sizeOf hinfo, hsz, hse, Sem.run_pure]
              split <;> rfl
            have spot : ∀ m, (if m = l then ⟨p.1, p.2 + off, none⟩ else (⟨p.1, p.2 + off, none⟩ : Addr).add (l * sz)).spot = none := fun m => by
              split
              · rfl
              · exact Addr.spot_add rfl
            split at h
            · rename_i m0
              split at h
              · rename_i m hhs hm
                cases hb2 : (!(decide (hh ≤ m) && decide (m ≤ len))) with
                | true => rw [hb2] at h; cases h
                | false =>
                  rw [hb2, cond_false rfl] at h
                  simp only [Bool.not_eq_false', Bool.and_eq_true, decide_eq_true_eq] at hb2
                  have hm' : bnd (some m0) cap = some m := (bnd_some m0 cap 0).trans hm
                  cases hb3 : (m == hh && l == hh) with
                  | false => rw [hb3] at h; cases h
                  | true =>
                    rw [hb3, cond_true rfl] at h
                    cases h
                    simp only [Bool.and_eq_true, beq_iff_eq] at hb3
                    obtain ⟨rfl, rfl⟩ := hb3
                    have q := real _ hm' (Nat.le_refl _) (by omega) (fun _ => hhs)
                    rw [Nat.sub_self] at q
                    exact ⟨_, q, VR.nilLit _ 0 (spot _) rfl⟩
              · cases h
            · have q := real cap rfl (by omega) (Nat.le_refl _) (by simp)
              cases hb2 : (l == hh && !(l == 0)) with
              | true =>
                rw [hb2, cond_true rfl] at h
                cases h
                simp only [Bool.and_eq_true, beq_iff_eq] at hb2
                obtain ⟨rfl, -⟩ := hb2
                have sp := spot cap
                rw [Nat.sub_self] at q
                exact ⟨_, q, VR.nilLit _ _ sp trivial⟩
              | false =>
                rw [hb2, cond_false rfl] at h
                cases h
                refine ⟨_, q, ?_⟩
                have haddr : (if cap = l then ⟨p.1, p.2 + off, none⟩ else (⟨p.1, p.2 + off, none⟩ : Addr).add (l * sz)) = ⟨p.1, p.2 + (off + l * sz), none⟩ := by
                  by_cases hl0 : l = 0
                  · subst hl0; split <;> simp [Addr.plus]
                  · have hlt : l < hh := by
                      rcases Nat.lt_or_ge l hh with g | g
                      · exact g
                      · have : l = hh := by omega
                        subst this
                        simp [hl0] at hb2
                    rw [if_neg (by omega), Addr.plus, Nat.add_assoc]
                rw [haddr]
                refine .arr sz b _ _ _ _ hbn (by omega) fun p' hp' => ?_
                have : p' = p := by rw [hp1] at hp'; exact (Option.some.inj hp').symm
                subst this
                have hle : (cap - l) * sz + l * sz = cap * sz := by rw [← Nat.add_mul, Nat.sub_add_cancel (by omega)]
                refine ⟨rfl, fun j hj => ?_, by omega, hpl⟩
                have := hwho (l * sz + j) (by omega)
                rw [show p'.2 + (off + l * sz) + j = p'.2 + off + (l * sz + j) by omega]
                exact this
        · cases h
      · cases h
  · rename_i m e _ _ _ _ hti
    have hu := ty_array hT hti
    split at h
    · cases h
    · rename_i ei hei
      obtain ⟨eti, hinfo, hsz, _⟩ := ty_size hT hei
      split at h
      · rename_i b off
        split at h
        · rename_i l hh bcs hl hhh hbc
          cases hb : (!(decide (l < hh) && decide (hh ≤ m) && decide (off + m * ei.size = bcs.length) && ei.size == 1)) with
          | true => rw [hb] at h; cases h
          | false =>
            rw [hb, cond_false rfl] at h
            cases h
            simp only [Bool.not_eq_false', Bool.and_eq_true, decide_eq_true_eq, beq_iff_eq] at hb
            obtain ⟨⟨⟨hlh, hhx⟩, hle⟩, hs1⟩ := hb
            obtain ⟨p, hp1, hql, hp2⟩ := hI.blks b bcs (blkCells_eq hbc)
            cases ha with
            | ptr _ _ a hbn ha =>
              have := ha p hp1; subst this
              have hvm : vmx = none := by cases vmx with | none => rfl | some _ => exact h3.elim
              subst hvm
              have := bounds_ok (P := P) (isS := false) (len := m) (cap := m) h1 h2 h3 hl hhh (m := m) rfl (by omega) hhx (Nat.le_refl _) (by simp)
              refine ⟨.slice (some ⟨p.1, p.2 + (off + l * ei.size), none⟩) (hh - l) (m - l), ?_, ?_⟩
              · simp only [Instr.sliceAt, Sem.run_bind, run_underlying hu, Result.andThen_ok, Instr.sureAddr, Sem.run_pure, this, run_sizeOf hinfo, hsz]
                rw [if_neg (by omega), Addr.plus, Nat.add_assoc]
              · refine .arr _ b _ _ _ _ hbn (by omega) fun p' hp' => ?_
                have : p' = p := by rw [hp1] at hp'; exact (Option.some.inj hp').symm
                subst this
                have e1 : (m - l) * ei.size + l * ei.size = m * ei.size := by rw [← Nat.add_mul, Nat.sub_add_cancel (by omega)]
                refine ⟨rfl, fun j hj => ?_, by omega, .inl hs1⟩
                have hlt : off + l * ei.size + j < bcs.length := by omega
                have := (hp2 _ _ (List.getElem?_eq_getElem hlt)).1
                rw [show p'.2 + (off + l * ei.size) + j = p'.2 + (off + l * ei.size + j) by omega]
                exact this
        · cases h
      · cases h
  · cases h

end
section
variable {P:Program} {C:Cfg}
theorem chunk_ok {sz:Nat} (h0:sz≠0):∀ (n:Nat) (cs xs:List AV),(∀ (j:Nat) c,cs[j]?=some c→c.one=true)→chunk sz n cs=some xs →
  xs.length=n∧(∀ x ∈ xs,x.cells.length=sz)∧flat xs=cs.take (n * sz)∧n * sz≤cs.length
 | 0,cs,xs,_,h=>by simp [chunk] at h;subst h;simp [flat]
 | n + 1,cs,xs,ho,h=>by
  simp only [chunk] at h
  have step:∀ x,(bif sz==1 then cs.head? else (let c:=cs.take sz;bif c.length==sz then some (AV.agg c) else none))=some x→x.cells=cs.take sz∧sz≤cs.length:=fun x hx=>by
   cases hb:(sz==1) with
   | true =>
    rw [hb,cond_true rfl] at hx
    have:sz=1:=by simpa using hb
    subst this
    cases cs with
    | nil=>simp at hx
    | cons c cs =>
     simp at hx;subst hx
     exact ⟨by rw [AV.cells_one (ho 0 _ rfl)];simp,by simp⟩
   | false =>
    rw [hb,cond_false rfl] at hx
    dsimp only at hx
    cases hb2:((cs.take sz).length==sz) with
    | false=>rw [hb2] at hx;cases hx
    | true =>
     rw [hb2,cond_true rfl] at hx;cases hx
     refine ⟨rfl, ?_⟩
     have:(cs.take sz).length=sz:=by simpa using hb2
     simp at this;omega
  split at h
  ·rename_i x hx
   obtain ⟨h1,h2⟩:=step x hx
   split at h
   ·rename_i r hr
    cases h
    obtain ⟨g1,g2,g3,g4⟩:=chunk_ok h0 n (cs.drop sz) r (fun j c hc=>by rw [List.getElem?_drop] at hc;exact ho _ c hc) hr
    refine ⟨by simp [g1],fun y hy => ?_, ?_, ?_⟩
    ·cases hy with
     | head=>rw [h1];simp;omega
     | tail _ hy=>exact g2 y hy
    ·simp only [flat,h1,g3]
     rw [Nat.succ_mul,Nat.add_comm (n * sz) sz,List.take_add]
    ·simp at g4;rw [Nat.succ_mul];omega
   ·cases h
  ·cases h
theorem run_loadCells_of {w:World} {rb ro n:Nat} {c:Array Value} (hn:c.size=n) (h:∀ j v,c[j]?=some v→w.cell? ⟨rb,ro + j,none⟩=some v):(loadCells ⟨rb,ro,none⟩ n).run P w = .ok c w:=by
 subst hn
 have:=run_loadCells_list (P:=P) w ⟨rb,ro,none⟩ c.toList (fun j v hv=>by rw [Addr.add_mid];exact h j v (by simpa using hv))
 simpa using this
theorem Lies.acr {n:Nat} {L:Lay} {w:World} {cs:List AV} {rb ro:Nat} (h:Lies n L w cs rb ro):∃ c:Array Value,ACR n L w cs c∧∀ (j:Nat) v,c[j]?=some v→w.cell? ⟨rb,ro + j,none⟩=some v:=by
 let f:Nat→Value:=fun j=>(w.cell? ⟨rb,ro + j,none⟩).getD default
 have hf:∀ (j:Nat) c,cs[j]?=some c→w.cell? ⟨rb,ro + j,none⟩=some (f j)∧VR n L w c (f j):=fun j c hc=>by
  obtain ⟨_,rv,h1,h2⟩:=h j c hc
  have:f j=rv:=by simp [f,h1]
  rw [this];exact ⟨h1,h2⟩
 refine ⟨((List.range cs.length).map f).toArray,⟨by simp,fun i x hx=>(h i x hx).1,fun i x hx => ?_⟩,fun j v hv => ?_⟩
 ·have hlt:=(List.getElem?_eq_some_iff.1 hx).1
  simpa [Array.getD,hlt] using (hf i x hx).2
 ·have hlt:j < cs.length:=by
   have:=(Array.getElem?_eq_some_iff.1 hv).1;simpa using this
  have:v=f j:=by simp [hlt] at hv;exact hv.symm
  subst this
  exact (hf j _ (List.getElem?_eq_getElem hlt)).1
theorem flat_bytes:∀ (s:List UInt8),flat (s.map fun c=>AV.int .u8 c.toNat)=s.map fun c=>AV.int .u8 c.toNat
 | []=>rfl
 | x::s=>by simp [flat,AV.cells,flat_bytes s]
theorem bytes_acr (n:Nat) (L:Lay) (w:World) (s:ByteArray):ACR n L w (s.data.toList.map fun c=>AV.int .u8 c.toNat) (s.data.map fun b => .int .u8 b.toNat) where
 len:=by simp
 one i x hx:=by
  simp only [List.getElem?_map,Option.map_eq_some_iff] at hx
  obtain ⟨c,_,rfl⟩:=hx;rfl
 vr i x hx:=by
  simp only [List.getElem?_map,Option.map_eq_some_iff] at hx
  obtain ⟨c,hc,rfl⟩:=hx
  rw [Array.getElem?_toList] at hc
  rw [Array.getD_eq_getD_getElem?,Array.getElem?_map,hc]
  exact .int _ _
structure ElemsR (P:Program) (n:Nat) (L:Lay) (w:World) (sz:Nat) (xs:List AV) (v:Value):Prop where
 sizes:∀ x ∈ xs,x.cells.length=sz
 cells:∃ c:Array Value,ACR n L w (flat xs) c∧∀ w1:World,(∀ a,w1.cell? a=w.cell? a)→(Builtin.firstCells sz xs.length v).run P w1 = .ok c w1
 len:∀ w1:World,(Builtin.lenOf v).run P w1 = .ok xs.length w1
theorem elems_ok {B:Nat} {w0 w:World} {L:Lay} {hp:List Blk} (hI:Inv C.glob B w0 L w hp) {sz:Nat} (h0:sz≠0) {x:AV} {v:Value} {xs:List AV} (h:elems hp sz x=some xs) (hv:VR hp.length L w x v) :
  ElemsR P hp.length L w sz xs v:=by
 unfold elems at h
 cases hv <;> simp only [reduceCtorEq] at h
 case nilS =>
  cases h
  exact ⟨fun x hx=>(by cases hx),⟨#[],⟨rfl,fun i x hx=>by simp [flat] at hx,fun i x hx=>by simp [flat] at hx⟩,fun w1 _=>rfl⟩,fun _=>rfl⟩
 case lit s own ys rb ro cap cv hc hs h1 ho h2 hown =>
  cases hb:(s==sz) with
  | false=>rw [hb] at h;cases h
  | true =>
   rw [hb,cond_true rfl] at h;cases h
   have:s=sz:=by simpa using hb
   subst this
   have hfl:=flat_length xs hs
   have hl:Lies hp.length L w (flat xs) rb ro:=fun j c hj=>⟨ho j c hj,cv j,(h1 j (by rw [← hfl];exact (List.getElem?_eq_some_iff.1 hj).1)).1,h2 j c hj⟩
   obtain ⟨c,g1,g2⟩:=hl.acr
   refine ⟨hs,⟨c,g1,fun w1 hw1 => ?_⟩,fun _=>rfl⟩
   exact run_loadCells_of (by rw [g1.len,hfl]) fun j v hv=>by rw [hw1];exact g2 j v hv
 case lit0 s own a hp =>
  cases hb:(s==sz) with
  | false=>rw [hb] at h;cases h
  | true =>
   rw [hb,cond_true rfl] at h;cases h
   refine ⟨fun x hx=>(by cases hx),⟨#[],⟨rfl,fun i x hx=>by simp [flat] at hx,fun i x hx=>by simp [flat] at hx⟩,fun w1 _ => ?_⟩,fun _=>rfl⟩
   have:=run_loadCells_list (P:=P) w1 a [] (fun j v hv=>by simp at hv)
   show (loadCells a (0 * sz)).run P w1=_
   rw [Nat.zero_mul]
   simpa using this
 case arr s b off len a cap hbn hc ha =>
  cases hb:(s==sz) with
  | false=>rw [hb] at h;cases h
  | true =>
   rw [hb,cond_true rfl] at h
   have:s=sz:=by simpa using hb
   subst this
   split at h
   ·rename_i cs hcs
    obtain ⟨p,hp1,hl⟩:=hI.lies (blkCells_eq hcs)
    obtain ⟨rfl,_,_⟩:=ha p hp1
    have ho:∀ (j:Nat) c,(cs.drop off)[j]?=some c→c.one=true:=fun j c hj=>by
     rw [List.getElem?_drop] at hj;exact (hl _ c hj).1
    obtain ⟨g1,g2,g3,g4⟩:=chunk_ok h0 len _ xs ho h
    have hl2:Lies hp.length L w (flat xs) p.1 (p.2 + off):=fun j c hj=>by
     rw [g3] at hj
     have hlt:j < len * s:=by have:=(List.getElem?_eq_some_iff.1 hj).1;simp at this;omega
     rw [List.getElem?_take_of_lt hlt,List.getElem?_drop] at hj
     have:=hl _ c hj
     rw [← Nat.add_assoc] at this;exact this
    obtain ⟨c,k1,k2⟩:=hl2.acr
    refine ⟨g2,⟨c,k1,fun w1 hw1 => ?_⟩,fun _=>by rw [g1];rfl⟩
    rw [g1]
    exact run_loadCells_of (by rw [k1.len,flat_length xs g2,g1]) fun j v hv=>by rw [hw1];exact k2 j v hv
   ·cases h
 case str l s hs =>
  cases hb:(sz==1) with
  | false=>rw [hb] at h;cases h
  | true =>
   rw [hb,cond_true rfl] at h;cases h
   have:sz=1:=by simpa using hb
   subst this;subst hs
   have hz:s.size=s.data.toList.length:=by rw [Array.length_toList];rfl
   refine ⟨fun x hx => ?_,⟨s.data.map fun b => .int .u8 b.toNat,by rw [flat_bytes];exact bytes_acr _ L w s,fun w1 _ => ?_⟩,fun _ => ?_⟩
   ·obtain ⟨c,_,rfl⟩:=List.mem_map.1 hx;rfl
   ·have:s.extract 0 (List.map (fun c=>AV.int IntKind.u8 ↑c.toNat) s.data.toList).length=s:=by
     rw [List.length_map,← hz]
     exact ByteArray.extract_zero_size
    simp only [Builtin.firstCells,this]
    rfl
   ·show Result.ok s.size _=_
    rw [hz,List.length_map]
end
section
variable {P : Program} {C : Cfg}

/-- what is appended, as the model reads it -/
structure AppR (P : Program) (n : Nat) (L : Lay) (w : World) (i : TypeInfo) (t2 : TypeId) (xs : List AV) (v : Value) : Prop where
  sizes : ∀ x ∈ xs, x.cells.length = i.size
  run : ∃ c : Array Value, ACR n L w (flat xs) c ∧
    ((∃ d, P.underlying t2 = some d ∧ (∀ k, d ≠ .int k) ∧ (∀ w1, (Builtin.lenOf v).run P w1 = .ok xs.length w1) ∧ (∀ w1 : World, (∀ a, w1.cell? a = w.cell? a) → (Builtin.firstCells i.size xs.length v).run P w1 = .ok c w1)) ∨
     (∃ k k' m z, P.underlying t2 = some (.int k') ∧ v = .int k m ∧ IntKind.i64.wrap m = xs.length ∧ (xs.length : Int) * (i.bytes : Int) ≤ 2 ^ 48 ∧ i.zero = some z ∧
        ((xs.length * i.size = 0 ∧ c = #[]) ∨ (xs.length * i.size ≠ 0 ∧ c = Builtin.zeroCells z.cells xs.length))))

theorem valOf_cells {ei : TI} {z : AV} (h : valOf ei ei.zero = some z) (ho : allOne ei.zero = true) (hl : ei.zero.length = ei.size) (hz : z.cells.length = ei.size) : z.cells = ei.zero := by
  unfold valOf at h
  cases ha : ei.k.agg with
  | false =>
    have h1 := part_one ha h
    have hone := allOne_mem ho _ _ h1
    rw [AV.cells_one hone] at hz ⊢
    have : ei.size = 1 := by simpa using hz.symm
    rw [this] at hl
    match hq : ei.zero, hl with
    | [y], _ => rw [hq] at h1; simp at h1; rw [h1]
  | true =>
    obtain ⟨rfl, _⟩ := part_agg ha h
    simp [AV.cells, ← hl]

theorem appElems_ok {B : Nat} {w0 w : World} {L : Lay} {hp : List Blk} (hT : TysOK P C) (hI : Inv C.glob B w0 L w hp) {e t2 : TypeId} {ei : TI} {i : TypeInfo} (hei : C.ty e = some ei) (hinfo : P.info? e = some i) (h0 : ei.size ≠ 0) {x : AV} {v : Value} {xs : List AV}
    (h : appElems C hp ei t2 x = some xs) (hv : VR hp.length L w x v) : AppR P hp.length L w i t2 xs v := by
  obtain ⟨i', ed, zv, hinfo', hed, hsz, hby, hek, hzi, hzs, hzl, hzo, _, _⟩ := (hT _ _ hei).ex
  rw [hinfo] at hinfo'; cases hinfo'
  unfold appElems at h
  split at h
  · rename_i hti
    have hu := ty_int hT hti
    split at h
    · rename_i k m z hz
      cases hb : (decide (0 ≤ m) && decide (m * ei.bytes ≤ 140737488355328) && decide (m ≤ 140737488355328) && z.cells.length == ei.size) with
      | false => rw [hb] at h; cases h
      | true =>
        rw [hb, cond_true rfl] at h; cases h
        simp only [Bool.and_eq_true, decide_eq_true_eq, beq_iff_eq] at hb
        obtain ⟨⟨⟨hm0, hmb⟩, hmm⟩, hzl2⟩ := hb
        have hz0 := zero_ok hp.length L w hzs hzo
        have hzl3 : ei.zero.length = ei.size := by rw [← hz0.len, hzl]
        have hzc := valOf_cells hz hzo hzl3 hzl2
        have hzne : zv.cells.size ≠ 0 := by rw [hzl]; exact h0
        cases hv
        have hwrap : IntKind.i64.wrap m = m := by
          unfold IntKind.wrap
          simp [IntKind.signed, IntKind.bits]
          omega
        have hmlen : (List.replicate m.toNat z).length = m.toNat := by simp
        refine ⟨fun x hx => by rw [(List.mem_replicate.1 hx).2, hsz]; exact hzl2, (Array.range (m.toNat * zv.cells.size)).map (zv.cells[· % zv.cells.size]!), ?_, .inr ⟨_, _, m, zv, hu, rfl, ?_, ?_, hzi, ?_⟩⟩
        · rw [flat_replicate, hzc]; exact rep_ok hz0 _ hzne
        · rw [hwrap, hmlen]; omega
        · rw [hmlen, hby, Int.toNat_of_nonneg hm0]; omega
        · rw [hmlen]
          by_cases hq : m.toNat * i.size = 0
          · refine .inl ⟨hq, ?_⟩
            have : m.toNat = 0 := by
              rcases Nat.mul_eq_zero.1 hq with g | g
              · exact g
              · omega
            simp [this]
          · exact .inr ⟨hq, rfl⟩
    · cases h
  · rename_i e2 _ _ _ _ hti
    have hu := ty_slice hT hti
    obtain ⟨g1, ⟨c, g2, g3⟩, g4⟩ := elems_ok (P := P) hI h0 h hv
    exact ⟨fun x hx => by rw [hsz]; exact g1 x hx, c, g2, .inl ⟨_, hu, fun k hk => (by cases hk), g4, fun w1 hw1 => by rw [hsz]; exact g3 w1 hw1⟩⟩
  · rename_i hti
    have hu := ty_string hT hti
    obtain ⟨g1, ⟨c, g2, g3⟩, g4⟩ := elems_ok (P := P) hI h0 h hv
    exact ⟨fun x hx => by rw [hsz]; exact g1 x hx, c, g2, .inl ⟨_, hu, fun k hk => (by cases hk), g4, fun w1 hw1 => by rw [hsz]; exact g3 w1 hw1⟩⟩
  · cases h

/-- within the capacity -/
theorem run_append_in {n : Nat} {L : Lay} {w : World} {t t2 e : TypeId} {ts : List TypeId} {ty : TypeId} {i : TypeInfo} {xs : List AV} {v : Value} (hu : P.underlying t = some (.slice e)) (hi : P.info? e = some i) (hx : AppR P n L w i t2 xs v)
    {base : Option Addr} {sLen sCap : Nat} (hle : sLen + xs.length ≤ sCap) :
    ∃ c, ACR n L w (flat xs) c ∧ (Builtin.append_ (t :: t2 :: ts).toArray ty #[.slice base sLen sCap, v]).run P w =
      (match base with
        | some a => (storeCells (a.add (sLen * i.size)) c.toList).run P w
        | none => .ok () w).andThen fun _ w' => .ok (.slice base (sLen + xs.length) sCap) w' := by
  obtain ⟨c, h1, h2⟩ := hx.run
  refine ⟨c, h1, ?_⟩
  rcases h2 with ⟨d, hu2, hni, hlen, hfirst⟩ | ⟨k, k', m, z, hu2, rfl, hm, hb, hz, hc⟩
  · have hf := hfirst w fun _ => rfl
    cases base with
    | none => simp [Builtin.append_, run_underlying hu, run_underlying hu2, run_sizeOf hi, hlen, hle, hf]
    | some a => simp [Builtin.append_, run_underlying hu, run_underlying hu2, run_sizeOf hi, hlen, hle, hf]
  · have h0 : ¬ ((xs.length : Int) < 0) := by omega
    have hb' : ¬ ((281474976710656 : Int) < (xs.length : Int) * (i.bytes : Int)) := by omega
    rcases hc with ⟨hc, rfl⟩ | ⟨hc, rfl⟩
    · cases base with
      | none => simp [Builtin.append_, run_underlying hu, run_underlying hu2, run_sizeOf hi, run_typeInfo hi, asInt, asIntOf, hm, h0, hb', hle, hc]
      | some a => simp [Builtin.append_, run_underlying hu, run_underlying hu2, run_sizeOf hi, run_typeInfo hi, asInt, asIntOf, hm, h0, hb', hle, hc]
    · cases base with
      | none => simp [Builtin.append_, run_underlying hu, run_underlying hu2, run_sizeOf hi, run_typeInfo hi, asInt, asIntOf, hm, h0, hb', hle, run_zeroValue hi hz]
      | some a => simp [Builtin.append_, run_underlying hu, run_underlying hu2, run_sizeOf hi, run_typeInfo hi, asInt, asIntOf, hm, h0, hb', hle, hc, run_zeroValue hi hz]

/-- past the capacity -/
theorem run_append_new {n : Nat} {L : Lay} {w : World} {t t2 e : TypeId} {ts : List TypeId} {ty : TypeId} {i : TypeInfo} {xs ys : List AV} {v : Value} {zv : Value} (hu : P.underlying t = some (.slice e)) (hi : P.info? e = some i) (hzi : i.zero = some zv)
    (hx : AppR P n L w i t2 xs v) {base : Option Addr} {sLen sCap : Nat} (hs : ElemsR P n L w i.size ys (.slice base sLen sCap)) (hy : ys.length = sLen) (hgt : sCap < sLen + xs.length) (hb : (sLen + xs.length) * i.bytes ≤ 140737488355328) (hb0 : i.bytes ≠ 0) :
    ∃ (c : Array Value) (cap : Nat), ACR n L w (flat (ys ++ xs)) c ∧ sLen + xs.length ≤ cap ∧ ∃ rest : Array Value, rest.size = (cap - (sLen + xs.length)) * zv.cells.size ∧
      (Builtin.append_ (t :: t2 :: ts).toArray ty #[.slice base sLen sCap, v]).run P w = .ok (.slice (some ⟨w.heap.size, 0, none⟩) (sLen + xs.length) cap) (w.drew.alloc (.cells (c ++ rest) e)) := by
  subst hy
  obtain ⟨c, h1, h2⟩ := hx.run
  obtain ⟨c0, g1, g2⟩ := hs.cells
  have hneed : ys.length + xs.length ≤ 140737488355328 := by
    have := Nat.le_mul_of_pos_right (ys.length + xs.length) (Nat.pos_of_ne_zero hb0); omega
  have hcap := nextslicecap_le (need := ys.length + xs.length) (old := sCap) hgt
  have hfits : ¬ (281474976710656 < Builtin.nextslicecap (ys.length + xs.length) sCap * i.bytes) := by
    have := Nat.mul_le_mul_right i.bytes hcap
    rw [Nat.mul_assoc] at this
    omega
  have hmax : ¬ ((9223372036854775807 : Int) < (ys.length : Int) + (xs.length : Int)) := by omega
  have hm64 : IntKind.i64.max = 9223372036854775807 := rfl
  let cap := (ys.length + xs.length) + w.tape w.drawn (.appendCap (ys.length + xs.length) sCap e) % (2 ^ 63 - (ys.length + xs.length))
  have hle : ¬ (ys.length + xs.length ≤ sCap) := by omega
  have hold : (Builtin.firstCells i.size ys.length (.slice base ys.length sCap)).run P w.drew = .ok c0 w.drew := g2 w.drew fun _ => rfl
  refine ⟨c0 ++ c, cap, ?_, Nat.le_add_right _ _, Builtin.zeroCells zv.cells (cap - (ys.length + xs.length)), by simp [Builtin.zeroCells], ?_⟩
  · rw [flat_append]
    refine ⟨by simp [g1.len, h1.len], fun j x hj => ?_, fun j x hj => ?_⟩
    · rw [List.getElem?_append] at hj
      split at hj
      · exact g1.one _ _ hj
      · exact h1.one _ _ hj
    · rw [List.getElem?_append] at hj
      rw [Array.getD_eq_getD_getElem?, Array.getElem?_append, g1.len]
      split at hj
      · rename_i hlt
        rw [if_pos hlt]
        have := g1.vr _ _ hj; rwa [Array.getD_eq_getD_getElem?] at this
      · rename_i hlt
        rw [if_neg hlt]
        have := h1.vr _ _ hj; rwa [Array.getD_eq_getD_getElem?] at this
  · rcases h2 with ⟨d, hu2, hni, hlen, hfirst⟩ | ⟨k, k', m, z, hu2, rfl, hm, hb, hz, hc⟩
    · have hf := hfirst w.drew fun _ => rfl
      simp [Builtin.append_, run_underlying hu, run_underlying hu2, run_sizeOf hi, run_typeInfo hi, hlen, hle, hf, hmax, hm64, hfits, hold, run_zeroValue hi hzi, Question.forced, Question.cut, run_newRow, cap]
    · have h0 : ¬ ((xs.length : Int) < 0) := by omega
      have hb' : ¬ ((281474976710656 : Int) < (xs.length : Int) * (i.bytes : Int)) := by omega
      rw [hz] at hzi; cases hzi
      rcases hc with ⟨hc, rfl⟩ | ⟨hc, rfl⟩
      · simp [Builtin.append_, run_underlying hu, run_underlying hu2, run_sizeOf hi, run_typeInfo hi, asInt, asIntOf, hm, h0, hb', hle, hc, hmax, hm64, hfits, hold, run_zeroValue hi hz, Question.forced, Question.cut, run_newRow, cap]
      · simp [Builtin.append_, run_underlying hu, run_underlying hu2, run_sizeOf hi, run_typeInfo hi, asInt, asIntOf, hm, h0, hb', hle, hc, hmax, hm64, hfits, hold, run_zeroValue hi hz, Question.forced, Question.cut, run_newRow, cap]

end
section
variable {P:Program} {C:Cfg}
theorem alloc_drew (w:World) (c:Array Value) (t:TypeId):Alloc w (w.drew.alloc (.cells c t)) c :=
 let h:=alloc_alloc w.drew c t
 ⟨h.size,h.old,h.new,h.fro,fun _ _ hB hb=>(hb.drew).alloc hB _,h.obj⟩
theorem Inv.addFam {glob:Nat→Option AV} {B:Nat} {w0:World} {hp:List Blk} {L:Lay} {w w':World} {c:Array Value} (hI:Inv glob B w0 L w hp) (h:Alloc w w' c) (m sz cap:Nat) (hmc:m≤cap) (hc:c.size=cap * sz) :
  ∃ L',L'.fam hp.length=some ⟨m,sz,0,w.heap.size,0,cap⟩∧(∀ o,o < m * sz→L'.who w.heap.size o = .imm) ∧
   Inv glob B w0 L' w' (hp++[.fam m])∧Ext hp.length L w L' w'∧∀ s,KeepLoc s L w L' w':=by
 let L':Lay:={ L.add w.heap.size (fun o=>if o < m * sz then .imm else if o < cap * sz then .spare hp.length else .none) with fam:=fun b=>if b=hp.length then some ⟨m,sz,0,w.heap.size,0,cap⟩ else L.fam b }
 have who:∀ r o,r < w.heap.size→L'.who r o=L.who r o:=fun r o hr=>by
  have hrn:r≠w.heap.size:=Nat.ne_of_lt hr
  exact if_neg hrn
 have whoN:∀ o,L'.who w.heap.size o=if o < m * sz then .imm else if o < cap * sz then .spare hp.length else .none:=fun o=>if_pos rfl
 obtain ⟨he,hk⟩:=h.ext (L':=L') (n:=hp.length) hI (fun r o hr=>if_neg hr) (fun b hb=>⟨rfl,rfl⟩) (fun b hb=>if_neg (by omega))
 have hlen:(hp++[Blk.fam m]).length=hp.length + 1:=by simp
 have hle:m * sz≤cap * sz:=Nat.mul_le_mul_right _ hmc
 refine ⟨L',if_pos rfl,fun o ho=>(whoN o).trans (if_pos ho),⟨h.below B w0 hI.size hI.below,by have:=hI.size;rw [h.size];omega, ?_, ?_, ?_, ?_, ?_, ?_, ?_, ?_, ?_, ?_⟩,he,hk⟩
 ·intro b cs2 hb
  have hb':hp[b]?=some (.cells cs2):=by
   have hlt:=(List.getElem?_eq_some_iff.1 hb).1
   rw [hlen] at hlt
   by_cases hbn:b=hp.length
   ·subst hbn;rw [List.getElem?_append_right (Nat.le_refl _)] at hb;simp at hb
   ·rw [← hb,List.getElem?_append_left];omega
  rw [hlen]
  obtain ⟨p,hp1,hql,h2⟩:=hI.blks b cs2 hb'
  refine ⟨p,hp1,hql,fun j x hx => ?_⟩
  obtain ⟨h3,ho,rv,h4,h5⟩:=h2 j x hx
  have hlt:=cell_lt ⟨rv,h4⟩
  exact ⟨(who _ _ hlt).trans h3,ho,rv,((h.old ⟨p.1,p.2 + j,none⟩ hlt).1).trans h4,h5.mono (by omega) he⟩
 ·intro r o b hr
  by_cases hn:r=w.heap.size
  ·subst hn
   rw [whoN] at hr
   split at hr
   ·cases hr
   ·split at hr <;> cases hr
  ·have hr':L.who r o = .blk b:=by rw [← hr];exact (if_neg hn).symm
   obtain ⟨h1,⟨v,h2⟩,h3⟩:=hI.own r o b hr'
   have hlt:=cell_lt ⟨v,h2⟩
   exact ⟨h1,⟨v,((h.old ⟨r,o,none⟩ hlt).1).trans h2⟩,((h.old ⟨r,o,none⟩ hlt).2).trans h3⟩
 ·intro g m' hg
  have hlt:=(List.getElem?_eq_some_iff.1 hg).1
  rw [hlen] at hlt
  by_cases hgn:g=hp.length
  ·subst hgn
   rw [List.getElem?_append_right (Nat.le_refl _)] at hg
   simp at hg
   subst hg
   refine ⟨_,if_pos rfl,rfl,Nat.zero_le _,hmc,fun j h1 h2 => ?_⟩
   show L'.who w.heap.size (0 + j)=_
   simp only [Nat.sub_zero] at h1 h2
   rw [Nat.zero_add,whoN,if_neg (by omega),if_pos h2]
  ·have hg':hp[g]?=some (.fam m'):=by rw [← hg,List.getElem?_append_left];omega
   obtain ⟨F,h1,h2,h3,h4,h5⟩:=hI.fams g m' hg'
   refine ⟨F,by show (if g=hp.length then _ else _)=_;rw [if_neg hgn];exact h1,h2,h3,h4,fun j hj1 hj2 => ?_⟩
   have:=h5 j hj1 hj2
   exact (who _ _ (hI.lt (by rw [this];simp))).trans this
 ·intro r o g hr
  by_cases hn:r=w.heap.size
  ·subst hn
   rw [whoN] at hr
   split at hr
   ·cases hr
   ·split at hr
    ·rename_i ho
     exact ⟨hI.size,⟨c[o]'(by omega),by rw [h.new];simp [show o < c.size by omega]⟩,h.fro o (by omega)⟩
    ·cases hr
  ·have hr':L.who r o = .spare g:=by rw [← hr];exact (if_neg hn).symm
   obtain ⟨h1,⟨v,h2⟩,h3⟩:=hI.spare r o g hr'
   have hlt:=cell_lt ⟨v,h2⟩
   exact ⟨h1,⟨v,((h.old ⟨r,o,none⟩ hlt).1).trans h2⟩,((h.old ⟨r,o,none⟩ hlt).2).trans h3⟩
 ·intro r o hr
  rw [h.size] at hr
  have hrn:r≠w.heap.size:=by omega
  have:L'.who r o=L.who r o:=if_neg hrn
  rw [this]
  exact hI.fresh r o (by omega)
 ·intro b hb;rw [hlen] at hb;exact hI.noLoc b (by omega)
 ·intro b hb
  rw [hlen] at hb
  show (if b=hp.length then _ else _)=_
  rw [if_neg (by omega)]
  exact hI.noFam b (by omega)
 ·intro g v hg;exact (hI.globs g v hg).mono (Nat.le_refl _) (he.less (Nat.zero_le _))
 ·exact hI.objs.keep he (fun _ _ _ _=>rfl) h.obj (obj_app fun _=>Blk.noConfusion) (by simp)
 ·exact hI.kept
theorem Inv.moveFam {glob:Nat→Option AV} {B:Nat} {w0:World} {hp:List Blk} {L:Lay} {w w':World} {c:Array Value} (hI:Inv glob B w0 L w hp) (h:Alloc w w' c) {g m0:Nat} (hg:hp[g]?=some (.fam m0)) (st m sz cap:Nat) (hm0:m0 < m) (hst:st≤m) (hmc:m≤st + cap) (hc:c.size=cap * sz) :
  ∃ L',L'.fam g=some ⟨m,sz,st,w.heap.size,0,st + cap⟩∧(∀ o,o < (m - st) * sz→L'.who w.heap.size o = .imm) ∧
   Inv glob B w0 L' w' (hp.set g (.fam m))∧Ext hp.length L w L' w'∧∀ s,KeepLoc s L w L' w':=by
 let L':Lay:={ L.add w.heap.size (fun o=>if o < (m - st) * sz then .imm else if o < cap * sz then .spare g else .none) with fam:=fun b=>if b=g then some ⟨m,sz,st,w.heap.size,0,st + cap⟩ else L.fam b }
 have who:∀ r o,r < w.heap.size→L'.who r o=L.who r o:=fun r o hr=>by
  have hrn:r≠w.heap.size:=Nat.ne_of_lt hr
  exact if_neg hrn
 have whoN:∀ o,L'.who w.heap.size o=if o < (m - st) * sz then .imm else if o < cap * sz then .spare g else .none:=fun o=>if_pos rfl
 have hgl:=(List.getElem?_eq_some_iff.1 hg).1
 obtain ⟨F0,hF0,hFm,_,_,_⟩:=hI.fams g m0 hg
 have hle:(m - st) * sz≤cap * sz:=Nat.mul_le_mul_right _ (by omega)
 have same:∀ r o,L.who r o ≠ .none→L'.who r o=L.who r o∧w'.cell? ⟨r,o,none⟩=w.cell? ⟨r,o,none⟩∧w'.frozen? ⟨r,o,none⟩=w.frozen? ⟨r,o,none⟩:=fun r o hr=>by
  have:=hI.lt hr
  exact ⟨who r o this,(h.old ⟨r,o,none⟩ this).1,(h.old ⟨r,o,none⟩ this).2⟩
 have he:Ext hp.length L w L' w':=by
  refine ⟨fun r o hr => ?_,fun b p hb hp => ?_,fun g' F hg' hF => ?_,by rw [h.size];omega,fun r o hr=>(h.old ⟨r,o,none⟩ hr).2,fun r o hr hn=>(who r o hr).trans hn⟩
  ·obtain ⟨h1,h2,_⟩:=same r o (by rw [hr];simp);exact ⟨h1.trans hr,h2⟩
  ·exact ⟨hp,fun r o hr=>by obtain ⟨h1,_,_⟩:=same r o (by rw [hr];simp);exact h1.trans hr,rfl⟩
  ·by_cases hgg:g'=g
   ·subst hgg
    have:F=⟨m,sz,st,w.heap.size,0,st + cap⟩:=by
     have h2:L'.fam g'=some ⟨m,sz,st,w.heap.size,0,st + cap⟩:=if_pos rfl
     rw [h2] at hF;exact (Option.some.inj hF).symm
    subst this
    exact ⟨F0,hF0, .inr (by show F0.mark < m;omega)⟩
   ·have h2:L'.fam g'=L.fam g':=if_neg hgg
    rw [h2] at hF
    exact ⟨F,hF, .inl rfl⟩
 have hk:∀ s,KeepLoc s L w L' w':=fun s r o t _ hl=>by
  obtain ⟨h1,h2,h3⟩:=same r o (by rw [hl];simp);exact ⟨h1.trans hl,h2,h3⟩
 refine ⟨L',if_pos rfl,fun o ho=>(whoN o).trans (if_pos ho),⟨h.below B w0 hI.size hI.below,by have:=hI.size;rw [h.size];omega, ?_, ?_, ?_, ?_, ?_, ?_, ?_, ?_, ?_, ?_⟩,he,hk⟩
 ·intro b cs2 hb
  have hb':hp[b]?=some (.cells cs2):=by
   by_cases hbg:g=b
   ·subst hbg;rw [List.getElem?_set_self hgl] at hb;cases hb
   ·rw [List.getElem?_set_ne hbg] at hb;exact hb
  rw [List.length_set]
  obtain ⟨p,hp1,hql,h2⟩:=hI.blks b cs2 hb'
  refine ⟨p,hp1,hql,fun j x hx => ?_⟩
  obtain ⟨h3,ho,rv,h4,h5⟩:=h2 j x hx
  have hlt:=cell_lt ⟨rv,h4⟩
  exact ⟨(who _ _ hlt).trans h3,ho,rv,((h.old ⟨p.1,p.2 + j,none⟩ hlt).1).trans h4,h5.mono (Nat.le_refl _) he⟩
 ·intro r o b hr
  by_cases hn:r=w.heap.size
  ·subst hn
   rw [whoN] at hr
   split at hr
   ·cases hr
   ·split at hr <;> cases hr
  ·have hr':L.who r o = .blk b:=by rw [← hr];exact (if_neg hn).symm
   obtain ⟨h1,⟨v,h2⟩,h3⟩:=hI.own r o b hr'
   have hlt:=cell_lt ⟨v,h2⟩
   exact ⟨h1,⟨v,((h.old ⟨r,o,none⟩ hlt).1).trans h2⟩,((h.old ⟨r,o,none⟩ hlt).2).trans h3⟩
 ·intro g' m' hg'
  by_cases hgg:g=g'
  ·subst hgg
   rw [List.getElem?_set_self hgl] at hg'
   cases hg'
   refine ⟨_,if_pos rfl,rfl,hst,hmc,fun j h1 h2 => ?_⟩
   show L'.who w.heap.size (0 + j)=_
   have e:st + cap - st=cap:=by omega
   simp only [e] at h2
   rw [Nat.zero_add,whoN,if_neg (by simpa using h1),if_pos h2]
  ·rw [List.getElem?_set_ne hgg] at hg'
   obtain ⟨F,h1,h2,h3,h4,h5⟩:=hI.fams g' m' hg'
   refine ⟨F,by show (if g'=g then _ else _)=_;rw [if_neg (fun e=>hgg e.symm)];exact h1,h2,h3,h4,fun j hj1 hj2 => ?_⟩
   have:=h5 j hj1 hj2
   exact (who _ _ (hI.lt (by rw [this];simp))).trans this
 ·intro r o g' hr
  by_cases hn:r=w.heap.size
  ·subst hn
   rw [whoN] at hr
   split at hr
   ·cases hr
   ·split at hr
    ·rename_i ho
     exact ⟨hI.size,⟨c[o]'(by omega),by rw [h.new];simp [show o < c.size by omega]⟩,h.fro o (by omega)⟩
    ·cases hr
  ·have hr':L.who r o = .spare g':=by rw [← hr];exact (if_neg hn).symm
   obtain ⟨h1,⟨v,h2⟩,h3⟩:=hI.spare r o g' hr'
   have hlt:=cell_lt ⟨v,h2⟩
   exact ⟨h1,⟨v,((h.old ⟨r,o,none⟩ hlt).1).trans h2⟩,((h.old ⟨r,o,none⟩ hlt).2).trans h3⟩
 ·intro r o hr
  rw [h.size] at hr
  have hrn:r≠w.heap.size:=by omega
  have:L'.who r o=L.who r o:=if_neg hrn
  rw [this]
  exact hI.fresh r o (by omega)
 ·intro b hb;rw [List.length_set] at hb;exact hI.noLoc b hb
 ·intro b hb
  rw [List.length_set] at hb
  show (if b=g then _ else _)=_
  rw [if_neg (by omega)]
  exact hI.noFam b hb
 ·intro g' v hg';exact (hI.globs g' v hg').mono (Nat.le_refl _) (he.less (Nat.zero_le _))
 ·exact hI.objs.keep he (fun _ _ _ _=>rfl) h.obj (fun b o h=>(obj_set (fun _=>Blk.noConfusion) b o h).1) (by simp)
 ·exact hI.kept
theorem Inv.growFam {glob:Nat→Option AV} {B:Nat} {w0:World} {hp:List Blk} {L:Lay} {w w':World} (hI:Inv glob B w0 L w hp) {g m0:Nat} {F:FamL} (hg:hp[g]?=some (.fam m0)) (hF:L.fam g=some F) (hFm:F.mark=m0) {k:Nat} (hk0:0 < k) (hmk:m0 + k≤F.en)
  {vs:List Value} (hvs:vs.length=k * F.sz) (hw:Wrote w w' F.rb (F.ro + (m0 - F.st) * F.sz) vs) :
  ∃ L',L'.fam g=some { F with mark:=m0 + k }∧(∀ j,j < k * F.sz→L'.who F.rb (F.ro + (m0 - F.st) * F.sz + j) = .imm)∧(∀ r o,L.who r o = .imm→L'.who r o = .imm) ∧
   Inv glob B w0 L' w' (hp.set g (.fam (m0 + k)))∧Ext hp.length L w L' w'∧∀ s,KeepLoc s L w L' w':=by
 obtain ⟨F',hF',hm',hst,hen,hsp⟩:=hI.fams g m0 hg
 rw [hF] at hF';cases hF'
 have hgl:=(List.getElem?_eq_some_iff.1 hg).1
 let inr:Nat→Nat→Prop:=fun r o=>r=F.rb∧F.ro + (m0 - F.st) * F.sz≤o∧o < F.ro + (m0 - F.st) * F.sz + k * F.sz
 have hdec:∀ r o,Decidable (inr r o):=fun r o=>inferInstanceAs (Decidable (_∧_∧_))
 let L':Lay:={ L with who:=fun r o=>if inr r o then .imm else L.who r o,fam:=fun b=>if b=g then some { F with mark:=m0 + k } else L.fam b }
 have hmul:(m0 - F.st) * F.sz + k * F.sz≤(F.en - F.st) * F.sz:=by rw [← Nat.add_mul];exact Nat.mul_le_mul_right _ (by omega)
 have hwas:∀ r o,inr r o→L.who r o = .spare g:=fun r o ⟨h1,h2,h3⟩=>by
  subst h1
  have:=hsp (o - F.ro) (by omega) (by omega)
  rwa [show F.ro + (o - F.ro)=o by omega] at this
 have who:∀ r o,¬ inr r o→L'.who r o=L.who r o:=fun r o h=>if_neg h
 have whoI:∀ r o,inr r o→L'.who r o = .imm:=fun r o h=>if_pos h
 have outs:∀ r o,¬ inr r o→w'.cell? ⟨r,o,none⟩=w.cell? ⟨r,o,none⟩:=fun r o h=>hw.out r o fun e=>by
  rw [hvs]
  rcases Nat.lt_or_ge o (F.ro + (m0 - F.st) * F.sz) with h1 | h1
  ·exact .inl h1
  ·rcases Nat.lt_or_ge o (F.ro + (m0 - F.st) * F.sz + k * F.sz) with h2 | h2
   ·exact absurd ⟨e,h1,h2⟩ h
   ·exact .inr h2
 have notIn:∀ r o x,L.who r o=x→x ≠ .spare g→¬ inr r o:=fun r o x h1 h2 h3=>h2 (by rw [← h1];exact hwas r o h3)
 have he:Ext hp.length L w L' w':=by
  refine ⟨fun r o hr => ?_,fun b p _ hp=>⟨hp,fun r o hr => ?_,rfl⟩,fun g' F2 _ hF2 => ?_,Nat.le_of_eq hw.size.symm,fun _ _ _=>hw.fro _,fun r o _ hn=>(who r o (notIn r o _ hn (by simp))).trans hn⟩
  ·have:=notIn r o _ hr (by simp)
   exact ⟨(who r o this).trans hr,outs r o this⟩
  ·exact (who r o (notIn r o _ hr (by simp))).trans hr
  ·by_cases hgg:g'=g
   ·subst hgg
    have h2:L'.fam g'=some { F with mark:=m0 + k }:=if_pos rfl
    rw [h2] at hF2;cases hF2
    exact ⟨F,hF, .inr (by show F.mark < m0 + k;omega)⟩
   ·have h2:L'.fam g'=L.fam g':=if_neg hgg
    rw [h2] at hF2
    exact ⟨F2,hF2, .inl rfl⟩
 have hk:∀ s,KeepLoc s L w L' w':=fun s r o t _ hl=>by
  have:=notIn r o _ hl (by simp)
  exact ⟨(who r o this).trans hl,outs r o this,hw.fro _⟩
 refine ⟨L',if_pos rfl,fun j hj=>whoI _ _ ⟨rfl,by omega,by omega⟩,fun r o h=>(he.imm r o h).1,⟨?_,by rw [hw.size];exact hI.size, ?_, ?_, ?_, ?_, ?_, ?_, ?_, ?_, ?_, ?_⟩,he,hk⟩
 ·exact hw.below B w0 (fun hz=>by
   have:0 < vs.length:=List.length_pos_iff.2 hz
   have h1:=hwas F.rb (F.ro + (m0 - F.st) * F.sz) ⟨rfl,by omega,by omega⟩
   exact (hI.spare _ _ _ h1).1) hI.below
 ·intro b cs2 hb
  have hb':hp[b]?=some (.cells cs2):=by
   by_cases hbg:g=b
   ·subst hbg;rw [List.getElem?_set_self hgl] at hb;cases hb
   ·rw [List.getElem?_set_ne hbg] at hb;exact hb
  rw [List.length_set]
  obtain ⟨p,hp1,hql,h2⟩:=hI.blks b cs2 hb'
  refine ⟨p,hp1,hql,fun j x hx => ?_⟩
  obtain ⟨h3,ho,rv,h4,h5⟩:=h2 j x hx
  have hni:=notIn _ _ _ h3 (by simp)
  exact ⟨(who _ _ hni).trans h3,ho,rv,(outs _ _ hni).trans h4,h5.mono (Nat.le_refl _) he⟩
 ·intro r o b hr
  have hni:¬ inr r o:=fun h=>by rw [whoI r o h] at hr;cases hr
  rw [who r o hni] at hr
  obtain ⟨h1,h2,h3⟩:=hI.own r o b hr
  exact ⟨h1,hw.some h2,by rw [hw.fro];exact h3⟩
 ·intro g' m' hg'
  by_cases hgg:g=g'
  ·subst hgg
   rw [List.getElem?_set_self hgl] at hg'
   cases hg'
   refine ⟨_,if_pos rfl,rfl,by show F.st≤m0 + k;omega,hmk,fun j h1 h2 => ?_⟩
   simp only at h1 h2 ⊢
   have e:m0 + k - F.st=(m0 - F.st) + k:=by omega
   rw [e,Nat.add_mul] at h1
   have hni:¬ inr F.rb (F.ro + j):=fun ⟨_,_,h3⟩=>by omega
   rw [who _ _ hni]
   exact hsp j (by omega) h2
  ·rw [List.getElem?_set_ne hgg] at hg'
   obtain ⟨F2,h1,h2,h3,h4,h5⟩:=hI.fams g' m' hg'
   refine ⟨F2,by show (if g'=g then _ else _)=_;rw [if_neg (fun e=>hgg e.symm)];exact h1,h2,h3,h4,fun j hj1 hj2 => ?_⟩
   have h6:=h5 j hj1 hj2
   have hni:=notIn _ _ _ h6 (fun e=>hgg (Who.spare.inj e).symm)
   exact (who _ _ hni).trans h6
 ·intro r o g' hr
  have hni:¬ inr r o:=fun h=>by rw [whoI r o h] at hr;cases hr
  rw [who r o hni] at hr
  obtain ⟨h1,h2,h3⟩:=hI.spare r o g' hr
  exact ⟨h1,hw.some h2,by rw [hw.fro];exact h3⟩
 ·intro r o hr
  rw [hw.size] at hr
  have h1:=hI.fresh r o hr
  have hni:¬ inr r o:=fun h=>by have:=hwas r o h;rw [h1] at this;cases this
  rw [who r o hni];exact h1
 ·intro b hb;rw [List.length_set] at hb;exact hI.noLoc b hb
 ·intro b hb
  rw [List.length_set] at hb
  show (if b=g then _ else _)=_
  rw [if_neg (by omega)]
  exact hI.noFam b hb
 ·intro g' v hg';exact (hI.globs g' v hg').mono (Nat.le_refl _) (he.less (Nat.zero_le _))
 ·exact hI.objs.keep he (fun _ _ _ _=>rfl) hw.obj (fun b o h=>(obj_set (fun _=>Blk.noConfusion) b o h).1) (by simp)
 ·exact hI.kept
end
section
variable {P:Program} {C:Cfg}
theorem Inv.kill {glob:Nat→Option AV} {B:Nat} {w0:World} {hp:List Blk} {L:Lay} {w:World} (hI:Inv glob B w0 L w hp) (b:Nat) :
  Inv glob B w0 { L with loc:=fun k=>if k=b then none else L.loc k } w (hp.set b .dead)∧Ext hp.length L w { L with loc:=fun k=>if k=b then none else L.loc k } w ∧
   ∀ s,KeepLoc s L w { L with loc:=fun k=>if k=b then none else L.loc k } w:=by
 have he:Ext hp.length L w { L with loc:=fun k=>if k=b then none else L.loc k } w:=by
  refine ⟨fun r o h=>⟨h,rfl⟩,fun k p hk hp => ?_,fun g F _ hF=>⟨F,hF, .inl rfl⟩,Nat.le_refl _,fun _ _ _=>rfl,fun _ _ _ h=>h⟩
  dsimp only at hp
  split at hp
  ·cases hp
  ·exact ⟨hp,fun r o h=>h,rfl⟩
 refine ⟨⟨hI.below,hI.size,fun k cs hk => ?_,hI.own,fun g m hg => ?_,hI.spare,hI.fresh,fun k hk => ?_,fun k hk => ?_,fun g v hg => ?_, ?_, ?_⟩,he,fun s r o t _ h=>⟨h,rfl,rfl⟩⟩
 ·by_cases hkb:b=k
  ·subst hkb
   by_cases hb:b < hp.length
   ·rw [List.getElem?_set_self hb] at hk;cases hk
   ·rw [List.getElem?_eq_none (by simp;omega)] at hk;cases hk
  ·rw [List.getElem?_set_ne hkb] at hk
   obtain ⟨p,h1,h2,h3⟩:=hI.blks k cs hk
   rw [List.length_set]
   refine ⟨p,by dsimp only;rw [if_neg (fun e=>hkb e.symm)];exact h1,h2,fun j c hc => ?_⟩
   obtain ⟨h4,h5,rv,h6,h7⟩:=h3 j c hc
   exact ⟨h4,h5,rv,h6,h7.mono (Nat.le_refl _) he⟩
 ·by_cases hkb:b=g
  ·subst hkb
   by_cases hb:b < hp.length
   ·rw [List.getElem?_set_self hb] at hg;cases hg
   ·rw [List.getElem?_eq_none (by simp;omega)] at hg;cases hg
  ·rw [List.getElem?_set_ne hkb] at hg
   exact hI.fams g m hg
 ·rw [List.length_set] at hk
  dsimp only
  split
  ·rfl
  ·exact hI.noLoc k hk
 ·rw [List.length_set] at hk;exact hI.noFam k hk
 ·exact (hI.globs g v hg).mono (Nat.le_refl _) (he.less (Nat.zero_le _))
 ·exact hI.objs.keep he (fun k o _ h=>if_neg (obj_set (fun _=>Blk.noConfusion) k o h).2) (KeepO.refl w) (fun k o h=>(obj_set (fun _=>Blk.noConfusion) k o h).1) (by simp)
 ·exact hI.kept
theorem Inv.reown {glob:Nat→Option AV} {B:Nat} {w0:World} {hp:List Blk} {L:Lay} {w w':World} (hI:Inv glob B w0 L w hp) {b rb lo m:Nat} (hloc:L.loc b=none) (hown:∀ j,j < m→L.who rb (lo + j) = .blk b)
  {s0:Nat} {vs:List Value} (hw:Wrote w w' rb (lo + s0) vs) (hvs:s0 + vs.length≤m) {cs:List AV} (hcm:cs.length≤m)
  (hc:∀ (j:Nat) x,cs[j]?=some x→x.one=true∧∃ v,w'.cell? ⟨rb,lo + j,none⟩=some v∧VR hp.length L w x v) :
  ∃ L',L'.loc hp.length=some (rb,lo)∧L'.ext hp.length=cs.length∧(∀ j,j < m→L'.who rb (lo + j) = .blk hp.length) ∧
   Inv glob B w0 L' w' (hp++[.cells cs])∧Ext hp.length L w L' w'∧∀ s,KeepLoc s L w L' w':=by
 let inr:Nat→Nat→Prop:=fun r o=>r=rb∧lo≤o∧o < lo + m
 have hdec:∀ r o,Decidable (inr r o):=fun r o=>inferInstanceAs (Decidable (_∧_∧_))
 let L':Lay:={ L with who:=fun r o=>if inr r o then .blk hp.length else L.who r o,loc:=fun k=>if k=hp.length then some (rb,lo) else L.loc k,ext:=fun k=>if k=hp.length then cs.length else L.ext k }
 have who:∀ r o,¬ inr r o→L'.who r o=L.who r o:=fun r o h=>if_neg h
 have whoI:∀ r o,inr r o→L'.who r o = .blk hp.length:=fun r o h=>if_pos h
 have hwas:∀ r o,inr r o→L.who r o = .blk b:=fun r o ⟨h1,h2,h3⟩=>by
  subst h1
  have:=hown (o - lo) (by omega)
  rwa [show lo + (o - lo)=o by omega] at this
 have notIn:∀ r o x,L.who r o=x→x ≠ .blk b→¬ inr r o:=fun r o x h1 h2 h3=>h2 (by rw [← h1];exact hwas r o h3)
 have outs:∀ r o,¬ inr r o→w'.cell? ⟨r,o,none⟩=w.cell? ⟨r,o,none⟩:=fun r o h=>hw.out r o fun e=>by
  rcases Nat.lt_or_ge o (lo + s0) with h1 | h1
  ·exact .inl h1
  ·rcases Nat.lt_or_ge o (lo + s0 + vs.length) with h2 | h2
   ·exact absurd ⟨e,by omega,by omega⟩ h
   ·exact .inr h2
 have he:Ext hp.length L w L' w':=by
  refine ⟨fun r o hr => ?_,fun k p hk hp' => ?_,fun g F _ hF=>⟨F,hF, .inl rfl⟩,Nat.le_of_eq hw.size.symm,fun _ _ _=>hw.fro _,fun r o _ hn=>(who r o (notIn r o _ hn (by simp))).trans hn⟩
  ·have:=notIn r o _ hr (by simp)
   exact ⟨(who r o this).trans hr,outs r o this⟩
  ·have h1:L'.loc k=L.loc k:=if_neg (by omega)
   have h2:L'.ext k=L.ext k:=if_neg (by omega)
   rw [h1] at hp'
   have hkb:k≠b:=fun e=>by rw [e,hloc] at hp';cases hp'
   exact ⟨hp',fun r o hr=>(who r o (notIn r o _ hr (fun e=>hkb (Who.blk.inj e)))).trans hr,h2⟩
 have hk:∀ s,KeepLoc s L w L' w':=fun s r o t _ hl=>by
  have:=notIn r o _ hl (by simp)
  exact ⟨(who r o this).trans hl,outs r o this,hw.fro _⟩
 have hlen:(hp++[Blk.cells cs]).length=hp.length + 1:=by simp
 refine ⟨L',if_pos rfl,if_pos rfl,fun j hj=>whoI _ _ ⟨rfl,by omega,by omega⟩,⟨?_,by rw [hw.size];exact hI.size, ?_, ?_, ?_, ?_, ?_, ?_, ?_, ?_, ?_, ?_⟩,he,hk⟩
 ·exact hw.below B w0 (fun hz=>by
   have:0 < vs.length:=List.length_pos_iff.2 hz
   exact (hI.own _ _ _ (hwas rb lo ⟨rfl,Nat.le_refl _,by omega⟩)).1) hI.below
 ·intro k cs2 hb
  rw [hlen]
  by_cases hbn:k=hp.length
  ·subst hbn
   rw [List.getElem?_append_right (Nat.le_refl _)] at hb
   simp at hb
   subst hb
   refine ⟨(rb,lo),if_pos rfl,if_pos rfl,fun j x hx => ?_⟩
   obtain ⟨ho,v,hv,hr⟩:=hc j x hx
   have hj:=(List.getElem?_eq_some_iff.1 hx).1
   exact ⟨whoI _ _ ⟨rfl,by omega,by omega⟩,ho,v,hv,hr.mono (by omega) he⟩
  ·have hb':hp[k]?=some (.cells cs2):=by
    rw [← hb,List.getElem?_append_left]
    have:=(List.getElem?_eq_some_iff.1 hb).1
    rw [hlen] at this;omega
   obtain ⟨p,hp1,hql,h2⟩:=hI.blks k cs2 hb'
   have hkb:k≠b:=fun e=>by rw [e,hloc] at hp1;cases hp1
   refine ⟨p,by show (if k=hp.length then _ else _)=_;rw [if_neg hbn];exact hp1,by show (if k=hp.length then _ else _)=_;rw [if_neg hbn];exact hql,fun j x hx => ?_⟩
   obtain ⟨h3,ho,rv,h4,h5⟩:=h2 j x hx
   have hni:=notIn _ _ _ h3 (fun e=>hkb (Who.blk.inj e))
   exact ⟨(who _ _ hni).trans h3,ho,rv,(outs _ _ hni).trans h4,h5.mono (by omega) he⟩
 ·intro r o k hr
  by_cases hni:inr r o
  ·obtain ⟨h1,h2,h3⟩:=hI.own r o b (hwas r o hni)
   exact ⟨h1,hw.some h2,by rw [hw.fro];exact h3⟩
  ·rw [who r o hni] at hr
   obtain ⟨h1,h2,h3⟩:=hI.own r o k hr
   exact ⟨h1,hw.some h2,by rw [hw.fro];exact h3⟩
 ·intro g m' hg
  have hg':hp[g]?=some (.fam m'):=by
   have hlt:=(List.getElem?_eq_some_iff.1 hg).1
   rw [hlen] at hlt
   by_cases hgn:g=hp.length
   ·subst hgn;rw [List.getElem?_append_right (Nat.le_refl _)] at hg;simp at hg
   ·rw [← hg,List.getElem?_append_left];omega
  obtain ⟨F,h1,h2,h3,h4,h5⟩:=hI.fams g m' hg'
  refine ⟨F,h1,h2,h3,h4,fun j hj1 hj2 => ?_⟩
  have h6:=h5 j hj1 hj2
  exact (who _ _ (notIn _ _ _ h6 (by simp))).trans h6
 ·intro r o g hr
  have hni:¬ inr r o:=fun h=>by rw [whoI r o h] at hr;cases hr
  rw [who r o hni] at hr
  obtain ⟨h1,h2,h3⟩:=hI.spare r o g hr
  exact ⟨h1,hw.some h2,by rw [hw.fro];exact h3⟩
 ·intro r o hr
  rw [hw.size] at hr
  have h1:=hI.fresh r o hr
  have hni:¬ inr r o:=fun h=>by have:=hwas r o h;rw [h1] at this;cases this
  rw [who r o hni];exact h1
 ·intro k hk
  rw [hlen] at hk
  show (if k=hp.length then _ else _)=_
  rw [if_neg (by omega)]
  exact hI.noLoc k (by omega)
 ·intro k hk;rw [hlen] at hk;exact hI.noFam k (by omega)
 ·intro g v hg;exact (hI.globs g v hg).mono (Nat.le_refl _) (he.less (Nat.zero_le _))
 ·exact hI.objs.keep he (fun k o hk' _=>if_neg (Nat.ne_of_lt (obj_lt hk'))) hw.obj (obj_app fun _=>Blk.noConfusion) (by simp)
 ·exact hI.kept
def Comes (C:Cfg) (B:Nat) (w0:World) (L:Lay) (w:World) (st:St) (r:Res) (w':World) (rv:Value):Prop :=
 ∃ L' x,r.val = .v x∧r.tmps=st.tmps∧Inv C.glob B w0 L' w' r.hp∧Ext st.hp.length L w L' w'∧(∀ s,KeepLoc s L w L' w')∧w.heap.size≤w'.heap.size∧st.hp.length≤r.hp.length∧VR r.hp.length L' w' x rv
theorem CR.of_acr {n:Nat} {L:Lay} {w:World} {cs:List AV} {c:Array Value} (h:ACR n L w cs c):CR n L w cs c.toList :=
 ⟨by simp [h.len],fun i x v hx hv=>by
  have:=h.vr i x hx
  rw [Array.getElem?_toList] at hv
  rw [Array.getD_eq_getD_getElem?,hv] at this
  exact this⟩
theorem ACR.ones {n:Nat} {L:Lay} {w:World} {cs:List AV} {c:Array Value} (h:ACR n L w cs c):∀ v ∈ c.toList,v.oneCell'=true:=(CR.of_acr h).allOne h.one
theorem run_storeCells_there {w:World} {rb o:Nat} {vs:List Value} (h:∀ j,j < vs.length→(w.cell? ⟨rb,o + j,none⟩).isSome=true∧w.frozen? ⟨rb,o + j,none⟩=false) (h1:∀ v ∈ vs,v.oneCell'=true) :
  (storeCells ⟨rb,o,none⟩ vs).run P w = .ok () (w.setCells rb o vs):=by
 have:=run_storeCells_cells (P:=P) rb o vs 0 w (fun j hj=>(h j hj).1) (fun j hj=>(h j hj).2) h1
 simpa using this
theorem slc_val {n:Nat} {L:Lay} {w:World} {s:AV} {vs:Value} {hp:List Blk} {sz:Nat} {ys:List AV} (h0:sz≠0) (hs:isSlc s=true) (hv:VR n L w s vs) (he:elems hp sz s=some ys) (hch:∀ b off len cs,s = .arr sz b off len→blkCells hp b=some cs→chunk sz len (cs.drop off)=some ys→ys.length=len) :
  ∃ base cap,vs = .slice base ys.length cap∧ys.length≤cap∧(base=none→cap=0):=by
 cases hv <;> simp only [isSlc,Bool.false_eq_true] at hs
 case nilS=>simp [elems] at he;subst he;exact ⟨none,0,rfl,Nat.le_refl _,fun _=>rfl⟩
 case lit sz' own xs rb ro cap cv hc _ _ _ _ _ =>
  unfold elems at he
  simp only at he
  cases hb:(sz'==sz) with
  | false=>rw [hb] at he;cases he
  | true =>
   rw [hb,cond_true rfl] at he;cases he
   exact ⟨_,cap,rfl,hc,fun h=>by cases h⟩
 case lit0 sz' own a hp =>
  unfold elems at he
  simp only at he
  cases hb:(sz'==sz) with
  | false=>rw [hb] at he;cases he
  | true =>
   rw [hb,cond_true rfl] at he;cases he
   exact ⟨_,0,rfl,Nat.le_refl _,fun h=>by cases h⟩
 case arr sz' b off len a cap hb hc ha =>
  unfold elems at he
  simp only at he
  cases hb:(sz'==sz) with
  | false=>rw [hb] at he;cases he
  | true =>
   rw [hb,cond_true rfl] at he
   have:sz'=sz:=by simpa using hb
   subst this
   split at he
   ·rename_i cs hcs
    have:=hch b off len cs rfl hcs he
    rw [this]
    exact ⟨some a,cap,rfl,hc,fun h=>by cases h⟩
   ·cases he
end
section
variable {P : Program} {C : Cfg}

theorem Inv.chunkLen {B : Nat} {w0 w : World} {L : Lay} {hp : List Blk} (hI : Inv C.glob B w0 L w hp) {sz : Nat} (h0 : sz ≠ 0) {s : AV} {ys : List AV} :
    ∀ b off len cs, s = .arr sz b off len → blkCells hp b = some cs → chunk sz len (cs.drop off) = some ys → ys.length = len := fun b off len cs _ hcs hch => by
  obtain ⟨p, _, hl⟩ := hI.lies (blkCells_eq hcs)
  exact (chunk_ok h0 len _ ys (fun j c hj => by rw [List.getElem?_drop] at hj; exact (hl _ c hj).1) hch).1

theorem appendFresh_ok {B : Nat} {w0 w : World} {L : Lay} {st : St} (hI : Inv C.glob B w0 L w st.hp) {sz k n : Nat} {zs : List AV} {c rest : Array Value} {cap : Nat} {e : TypeId} {arrM : Bool} {fp : Fp} {r : Res}
    (hz : zs.length = n + k) (hs : ∀ x ∈ zs, x.cells.length = sz) (hc : ACR st.hp.length L w (flat zs) c) (hcap : n + k ≤ cap) (hrest : rest.size = (cap - (n + k)) * sz)
    (h : (bif arrM then some (⟨.v (.arr sz st.hp.length 0 (n + k)), st.tmps, st.hp ++ [.cells (flat zs)], fp⟩ : Res)
          else some ⟨.v (.lit sz (.fam st.hp.length 0) zs), st.tmps, st.hp ++ [.fam (n + k)], fp⟩) = some r) :
    Comes C B w0 L w st r (w.drew.alloc (.cells (c ++ rest) e)) (.slice (some ⟨w.heap.size, 0, none⟩) (n + k) cap) := by
  have hfl := flat_length zs hs
  have hcs : c.size = (n + k) * sz := by rw [hc.len, hfl, hz]
  have hsz : (c ++ rest).size = cap * sz := by
    rw [Array.size_append, hcs, hrest, ← Nat.add_mul]
    congr 1; omega
  have ha := alloc_drew w (c ++ rest) e
  have hpre : ∀ (j : Nat) v, c[j]? = some v → (c ++ rest)[j]? = some v := fun j v hv => by
    have hj := (Array.getElem?_eq_some_iff.1 hv).1
    rw [Array.getElem?_append_left hj]; exact hv
  cases arrM with
  | true =>
    rw [cond_true rfl] at h; cases h
    obtain ⟨L', h1, h2, h3, h4, h5, h6⟩ := newHeap hI hc ha hpre
    refine ⟨L', _, rfl, rfl, h4, h5, h6, by simp [ha.size], by simp, ?_⟩
    refine .arr sz _ 0 _ _ cap (by simp) hcap fun p hp => ?_
    rw [h1] at hp; cases hp
    refine ⟨rfl, fun j hj => ?_, ?_⟩
    · simp only [Nat.zero_add]; exact h3 j (by omega)
    · rw [h2, hfl, hz, Nat.zero_add]
      exact ⟨Nat.mul_le_mul_right _ hcap, .inr ⟨by rw [ha.size]; exact Nat.lt_succ_self _, fun o => World.frozen?_alloc_new w.drew _ e o⟩⟩
  | false =>
    rw [cond_false rfl] at h; cases h
    obtain ⟨L', h1, h2, h3, h4, h5⟩ := hI.addFam ha (n + k) sz cap hcap hsz
    refine ⟨L', _, rfl, rfl, h3, h4, h5, by simp [ha.size], by simp, ?_⟩
    have := newLit (n' := (st.hp ++ [Blk.fam (n + k)]).length) hc hs cap (by omega) (.fam st.hp.length 0) _ L' (by simp) ha hpre (fun o ho => h2 o (by omega)) h4
      ⟨by simp, fun F hF => by
        rw [h1] at hF; cases hF
        refine ⟨by simp [hz], fun _ => ⟨rfl, Nat.le_refl _, rfl, by simp, by simp⟩⟩⟩
    rw [hz] at this
    exact this

theorem lit_append {n n' : Nat} {L L' : Lay} {w w' : World} {sz : Nat} {own' : Own} {xs ys : List AV} {rb ro cap : Nat} {cv : Nat → Value} {c : Array Value} (hn : n ≤ n') (he : Ext n L w L' w')
    (hsy : ∀ x ∈ ys, x.cells.length = sz) (hsx : ∀ x ∈ xs, x.cells.length = sz)
    (h1 : ∀ j, j < ys.length * sz → w.cell? ⟨rb, ro + j, none⟩ = some (cv j) ∧ L.who rb (ro + j) = .imm) (ho : ∀ (j : Nat) x, (flat ys)[j]? = some x → x.one = true) (h2 : ∀ (j : Nat) x, (flat ys)[j]? = some x → VR n L w x (cv j))
    (hc : ACR n L w (flat xs) c) (hnew : ∀ (j : Nat) v, c[j]? = some v → w'.cell? ⟨rb, ro + ys.length * sz + j, none⟩ = some v) (hwho : ∀ j, j < xs.length * sz → L'.who rb (ro + ys.length * sz + j) = .imm)
    (hcap : ys.length + xs.length ≤ cap) (hown : OwnOK L' n' own' sz rb ro (ys.length + xs.length) cap) :
    VR n' L' w' (.lit sz own' (ys ++ xs)) (.slice (some ⟨rb, ro, none⟩) (ys.length + xs.length) cap) := by
  have hfy := flat_length ys hsy
  have hfx := flat_length xs hsx
  have hs : ∀ x ∈ ys ++ xs, x.cells.length = sz := fun x hx => by
    rcases List.mem_append.1 hx with h | h
    · exact hsy x h
    · exact hsx x h
  have key := VR.lit (n := n') (L := L') (w := w') sz own' (ys ++ xs) rb ro cap (fun j => if j < ys.length * sz then cv j else c.getD (j - ys.length * sz) default) (by simpa using hcap) hs (fun j hj => ?_) (fun j x hj => ?_) (fun j x hj => ?_) (by simpa using hown)
  · simpa using key
  · rw [List.length_append, Nat.add_mul] at hj
    by_cases hlt : j < ys.length * sz
    · rw [if_pos hlt]
      obtain ⟨g1, g2⟩ := h1 j hlt
      obtain ⟨g3, g4⟩ := he.imm _ _ g2
      exact ⟨g4.trans g1, g3⟩
    · rw [if_neg hlt]
      have e1 : ro + j = ro + ys.length * sz + (j - ys.length * sz) := by omega
      have hlt2 : j - ys.length * sz < c.size := by rw [hc.len, hfx]; omega
      rw [e1]
      exact ⟨hnew _ _ (by simp [Array.getD, hlt2]), hwho _ (by omega)⟩
  · rw [flat_append, List.getElem?_append] at hj
    split at hj
    · exact ho j x hj
    · exact hc.one _ x hj
  · rw [flat_append, List.getElem?_append] at hj
    split at hj
    · rename_i hlt
      rw [if_pos (by omega)]
      exact (h2 j x hj).mono hn he
    · rename_i hlt
      rw [if_neg (by omega)]
      have := (hc.vr _ x hj).mono hn he
      rwa [hfy] at this

theorem elems_lit {hp : List Blk} {sz s : Nat} {own : Own} {zs ys : List AV} (h : elems hp sz (.lit s own zs) = some ys) : s = sz ∧ ys = zs := by
  unfold elems at h
  cases hb : (s == sz) with
  | false => simp only [hb] at h; cases h
  | true => simp only [hb, cond_true rfl] at h; cases h; exact ⟨by simpa using hb, rfl⟩

theorem elems_arr {hp : List Blk} {sz s b off len : Nat} {ys : List AV} (h : elems hp sz (.arr s b off len) = some ys) : s = sz ∧ ∃ cs, blkCells hp b = some cs ∧ chunk sz len (cs.drop off) = some ys := by
  unfold elems at h
  cases hb : (s == sz) with
  | false => simp only [hb] at h; cases h
  | true =>
    simp only [hb, cond_true rfl] at h
    have : s = sz := by simpa using hb
    subst this
    split at h
    · rename_i cs hcs; exact ⟨rfl, cs, hcs, h⟩
    · cases h

theorem appendE_ok {B fl : Nat} {w0 w : World} {L : Lay} {st : St} (hT : TysOK P C) (hI : Inv C.glob B w0 L w st.hp) {arrM : Bool} {t t2 ty : TypeId} {ts : List TypeId} {s x : AV} {vs vx : Value} {r : Res}
    (h : appendE C fl arrM st t t2 s x = some r) (hs : VR st.hp.length L w s vs) (hx : VR st.hp.length L w x vx) :
    ∃ w' rv, (Builtin.append_ (t :: t2 :: ts).toArray ty #[vs, vx]).run P w = .ok rv w' ∧ Comes C B w0 L w st r w' rv := by
  unfold appendE at h
  split at h
  case h_2 => cases h
  rename_i e _ _ _ _ hti
  have hu := ty_slice hT hti
  split at h
  · cases h
  rename_i ei hei
  obtain ⟨i, ed, zv, hinfo, hed, hsz, hby, hek, hzi, hzs, hzl, hzo, _, _⟩ := (hT _ _ hei).ex
  split at h
  case h_2 => cases h
  rename_i xs ys hxs hys
  dsimp only at h
  cases hb : (!decide ((ys.length + xs.length) * ei.bytes ≤ 140737488355328) || ei.size == 0 || ei.bytes == 0 || !isSlc s) with
  | true => rw [hb] at h; cases h
  | false =>
  rw [hb, cond_false rfl] at h
  simp only [Bool.or_eq_false_iff, Bool.not_eq_false', decide_eq_true_eq, beq_eq_false_iff_ne, ne_eq] at hb
  obtain ⟨⟨⟨hbb, h0⟩, hb0⟩, hslc⟩ := hb
  have hA := appElems_ok hT hI hei hinfo h0 hxs hx
  have hE := elems_ok (P := P) hI h0 hys hs
  rw [← hsz] at hE
  obtain ⟨base, cap, hvs, hcap, hbase⟩ := slc_val h0 hslc hs hys (hI.chunkLen h0)
  rw [hvs] at hE
  cases hk : (xs.length == 0) with
  | true =>
    rw [hk, cond_true rfl] at h; cases h
    have hk0 : xs.length = 0 := by simpa using hk
    have hxn : xs = [] := List.length_eq_zero_iff.1 hk0
    obtain ⟨c, h1, h2⟩ := run_append_in (n := st.hp.length) (L := L) (w := w) (ts := ts) (ty := ty) hu hinfo hA (base := base) (sLen := ys.length) (sCap := cap) (by omega)
    have hc0 : c.toList = [] := by
      have := h1.len; rw [hxn] at this; simp [flat] at this
      exact List.length_eq_zero_iff.1 (by simp [this])
    refine ⟨w, _, ?_, L, s, rfl, rfl, hI, Ext.refl _ _ _, fun s => KeepLoc.refl s L w, Nat.le_refl _, Nat.le_refl _, hs⟩
    rw [hvs, h2, hc0, hk0]
    cases base <;> rfl
  | false =>
  rw [hk, cond_false rfl] at h
  have hk0 : 0 < xs.length := by
    have : xs.length ≠ 0 := by simpa using hk
    omega
  have hsizes : ∀ y ∈ ys ++ xs, y.cells.length = ei.size := fun y hy => by
    rcases List.mem_append.1 hy with g | g
    · rw [← hsz]; exact hE.sizes y g
    · rw [← hsz]; exact hA.sizes y g
  have hxsz : ∀ x ∈ xs, x.cells.length = ei.size := fun x hx => by rw [← hsz]; exact hA.sizes x hx
  have hbb' : (ys.length + xs.length) * i.bytes ≤ 140737488355328 := by rw [hby]; exact hbb
  have hb0' : i.bytes ≠ 0 := by rw [hby]; exact hb0
  -- past the capacity: a new row
  have grown : cap < ys.length + xs.length → ∀ fp : Fp, (bif arrM then some (⟨.v (.arr ei.size st.hp.length 0 (ys.length + xs.length)), st.tmps, st.hp ++ [.cells (flat (ys ++ xs))], fp⟩ : Res)
          else some ⟨.v (.lit ei.size (.fam st.hp.length 0) (ys ++ xs)), st.tmps, st.hp ++ [.fam (ys.length + xs.length)], fp⟩) = some r →
      ∃ w' rv, (Builtin.append_ (t :: t2 :: ts).toArray ty #[vs, vx]).run P w = .ok rv w' ∧ Comes C B w0 L w st r w' rv := fun hgt fp hr => by
    obtain ⟨c, cap', g1, g2, rest, g3, g4⟩ := run_append_new (ts := ts) (ty := ty) hu hinfo hzi hA hE rfl hgt hbb' hb0'
    exact ⟨_, _, by rw [hvs]; exact g4, appendFresh_ok hI (by simp) hsizes g1 g2 (by rw [g3, hzl]) hr⟩
  split at h
  · -- nil
    simp only [elems, Option.some.injEq] at hys
    subst hys
    cases hs
    cases hvs
    exact grown (by omega) _ h
  · -- exact
    rename_i s' zs
    obtain ⟨rfl, rfl⟩ := elems_lit hys
    cases hs with
    | lit0 _ _ _ hp =>
      cases hvs
      exact grown (by simp only [List.length_nil]; omega) _ h
    | lit _ _ _ rb ro cap' cv hc hs' h1 ho h2 hown =>
      have hown : cap' = ys.length := hown
      cases hvs
      exact grown (by omega) _ h
  · -- a family's
    rename_i s' g st0 zs
    obtain ⟨rfl, rfl⟩ := elems_lit hys
    split at h
    case h_2 => cases h
    rename_i mark hmark
    cases hb2 : (st0 + ys.length == mark && decide (fl ≤ g)) with
    | false => rw [hb2] at h; cases h
    | true =>
    rw [hb2, cond_true rfl] at h; cases h
    simp only [Bool.and_eq_true, beq_iff_eq, decide_eq_true_eq] at hb2
    obtain ⟨hmk, -⟩ := hb2
    have hg := getAt_some hmark
    obtain ⟨F, hF, hFm, hFst, hFen, hFsp⟩ := hI.fams g mark hg
    cases hs with
    | lit0 _ _ _ hp => cases hp
    | lit _ _ _ rb ro cap' cv hc hs' h1 ho h2 hown =>
    cases hvs
    obtain ⟨hgn, hown⟩ := hown
    obtain ⟨-, hown2⟩ := hown F hF
    obtain ⟨hFsz, hFst0, rfl, hro, hcapen⟩ := hown2 (by omega)
    rw [setAt_eq]
    by_cases hle : ys.length + xs.length ≤ cap
    · -- within the capacity
      obtain ⟨c, g1, g2⟩ := run_append_in (n := st.hp.length) (L := L) (w := w) (ts := ts) (ty := ty) hu hinfo hA (base := some ⟨F.rb, ro, none⟩) (sLen := ys.length) (sCap := cap) hle
      have hclen : c.toList.length = xs.length * ei.size := by
        rw [Array.length_toList, g1.len, flat_length xs hxsz]
      have hpos : ro + ys.length * ei.size = F.ro + (mark - F.st) * F.sz := by
        rw [hro, hFsz, Nat.add_assoc, ← Nat.add_mul]; congr 2; omega
      have hsp : ∀ j, j < c.toList.length → L.who F.rb (ro + ys.length * ei.size + j) = .spare g := fun j hj => by
        rw [hpos, Nat.add_assoc]
        refine hFsp _ (Nat.le_add_right _ _) ?_
        rw [hclen, ← hFsz] at hj
        have : (F.en - F.st) * F.sz = (mark - F.st) * F.sz + (F.en - mark) * F.sz := by rw [← Nat.add_mul]; congr 1; omega
        have h5 : xs.length * F.sz ≤ (F.en - mark) * F.sz := Nat.mul_le_mul_right _ (by omega)
        omega
      have hthere : ∀ j, j < c.toList.length → (w.cell? ⟨F.rb, ro + ys.length * ei.size + j, none⟩).isSome = true ∧ w.frozen? ⟨F.rb, ro + ys.length * ei.size + j, none⟩ = false := fun j hj => by
        obtain ⟨_, ⟨v, hv⟩, hf⟩ := hI.spare _ _ _ (hsp j hj)
        exact ⟨by rw [hv]; rfl, hf⟩
      have hw := wrote_setCells (w := w) (rb := F.rb) (lo := ro + ys.length * ei.size) (vs := c.toList) (fun j hj => (hthere j hj).1)
      have hst := run_storeCells_there (P := P) hthere g1.ones
      obtain ⟨L', k1, k2, k3, k4, k5, k6⟩ := hI.growFam hg hF hFm hk0 (by omega) (by rw [hclen, hFsz]) (by rw [← hpos]; exact hw)
      refine ⟨_, .slice (some ⟨F.rb, ro, none⟩) (ys.length + xs.length) cap, ?_, L', _, rfl, rfl, k4, k5, k6, Nat.le_of_eq hw.size.symm, by simp, ?_⟩
      · rw [g2]
        dsimp only
        rw [Addr.plus, hsz, hst]
        rfl
      · rw [List.length_set]
        refine lit_append (Nat.le_refl _) k5 hs' hxsz h1 ho h2 g1 (fun j v hv => hw.inn j v (by simpa using hv)) (fun j hj => ?_) hle ⟨hgn, fun F' hF' => ?_⟩
        · have := k2 j (by rw [hFsz]; exact hj)
          rw [← hpos] at this; exact this
        · rw [k1] at hF'; cases hF'
          exact ⟨by show st0 + (ys.length + xs.length) ≤ mark + xs.length; omega, fun _ => ⟨hFsz, hFst0, rfl, by rw [hro], hcapen⟩⟩
    · -- past it
      obtain ⟨c, cap', g1, g2, rest, g3, g4⟩ := run_append_new (ts := ts) (ty := ty) hu hinfo hzi hA hE rfl (by omega) hbb' hb0'
      have hfl := flat_length _ hsizes
      have hcs : c.size = (ys.length + xs.length) * ei.size := by rw [g1.len, hfl, List.length_append]
      have hrs : (c ++ rest).size = cap' * ei.size := by
        rw [Array.size_append, hcs, g3, hzl, ← Nat.add_mul]; congr 1; omega
      have ha := alloc_drew w (c ++ rest) e
      obtain ⟨L', k1, k2, k4, k5, k6⟩ := hI.moveFam ha hg st0 (mark + xs.length) ei.size cap' (by omega) (by omega) (by omega) hrs
      refine ⟨_, _, g4, L', _, rfl, rfl, k4, k5, k6, by simp [ha.size], by simp, ?_⟩
      rw [List.length_set]
      have hpre : ∀ (j : Nat) v, c[j]? = some v → (c ++ rest)[j]? = some v := fun j v hv => by
        have hj := (Array.getElem?_eq_some_iff.1 hv).1
        rw [Array.getElem?_append_left hj]; exact hv
      have hk2 : ∀ o, o < c.size → L'.who w.heap.size o = .imm := fun o ho => by
        rw [hcs] at ho
        have e3 : mark + xs.length - st0 = ys.length + xs.length := by omega
        exact k2 o (by rw [e3]; exact ho)
      have := newLit (n' := st.hp.length) g1 hsizes cap' (by simp; omega) (.fam g st0) _ L' (Nat.le_refl _) ha hpre hk2 k5
        ⟨hgn, fun F' hF' => by
          rw [k1] at hF'; cases hF'
          refine ⟨by simp; omega, fun _ => ⟨rfl, Nat.le_refl _, rfl, by simp, rfl⟩⟩⟩
      rw [List.length_append] at this
      exact this
  · -- a block's
    rename_i s' b off len
    obtain ⟨rfl, cs, hcs, hch⟩ := elems_arr hys
    rw [hcs] at h
    dsimp only at h
    cases hfl : decide (fl ≤ b) with
    | false => rw [hfl] at h; cases h
    | true =>
    rw [hfl] at h
    simp only [Bool.not_true, cond_false] at h
    have hbb2 := blkCells_eq hcs
    obtain ⟨p, hp1, hpl, hp2⟩ := hI.blks b cs hbb2
    have hlen := hI.chunkLen h0 b off len cs rfl hcs hch
    obtain ⟨-, hysz, hfy, hyle⟩ := chunk_ok h0 len (cs.drop off) ys (fun j c hj => by rw [List.getElem?_drop] at hj; exact (hp2 _ c hj).2.1) hch
    cases hs with
    | arr _ _ _ _ a cap' hbn hc ha =>
    obtain ⟨rfl, hwho, hext, hplain⟩ := ha p hp1
    cases hvs
    rw [hpl] at hext
    have hyle2 : off + ys.length * ei.size ≤ cs.length ∨ ys.length = 0 := by
      simp at hyle
      rcases Nat.eq_zero_or_pos ys.length with g | g
      · exact .inr g
      · have : 0 < ys.length * ei.size := Nat.mul_pos g (by omega)
        exact .inl (by omega)
    have hfxl := flat_length xs hxsz
    have real_in : ys.length + xs.length ≤ cap → ∃ c, ACR st.hp.length L w (flat xs) c ∧ Wrote w (w.setCells p.1 (p.2 + off + ys.length * ei.size) c.toList) p.1 (p.2 + off + ys.length * ei.size) c.toList ∧
        (Builtin.append_ (t :: t2 :: ts).toArray ty #[.slice (some ⟨p.1, p.2 + off, none⟩) ys.length cap, vx]).run P w = .ok (.slice (some ⟨p.1, p.2 + off, none⟩) (ys.length + xs.length) cap) (w.setCells p.1 (p.2 + off + ys.length * ei.size) c.toList) := fun hle => by
      obtain ⟨c, g1, g2⟩ := run_append_in (n := st.hp.length) (L := L) (w := w) (ts := ts) (ty := ty) hu hinfo hA (base := some ⟨p.1, p.2 + off, none⟩) (sLen := ys.length) (sCap := cap) hle
      have hclen : c.toList.length = xs.length * ei.size := by rw [Array.length_toList, g1.len, hfxl]
      have hthere : ∀ j, j < c.toList.length → (w.cell? ⟨p.1, p.2 + off + ys.length * ei.size + j, none⟩).isSome = true ∧ w.frozen? ⟨p.1, p.2 + off + ys.length * ei.size + j, none⟩ = false := fun j hj => by
        have hle3 : (ys.length + xs.length) * ei.size ≤ cap * ei.size := Nat.mul_le_mul_right _ hle
        rw [Nat.add_mul] at hle3
        have := hwho (ys.length * ei.size + j) (by omega)
        rw [← Nat.add_assoc] at this
        obtain ⟨_, ⟨v, hv⟩, hf⟩ := hI.own _ _ _ this
        exact ⟨by rw [hv]; rfl, hf⟩
      refine ⟨c, g1, wrote_setCells (fun j hj => (hthere j hj).1), ?_⟩
      have hst := run_storeCells_there (P := P) hthere g1.ones
      rw [g2]
      dsimp only
      rw [Addr.plus, hsz, hst]
      rfl
    cases hin : decide (off + (ys.length + xs.length) * ei.size ≤ cs.length) with
    | true =>
      rw [hin, cond_true rfl] at h; cases h
      have hin : off + (ys.length + xs.length) * ei.size ≤ cs.length := by simpa using hin
      have hle : ys.length + xs.length ≤ cap := by
        have : (ys.length + xs.length) * ei.size ≤ cap * ei.size := by omega
        exact Nat.le_of_mul_le_mul_right this (by omega)
      obtain ⟨c, g1, hw, g3⟩ := real_in hle
      rw [Nat.add_mul] at hin
      rw [Nat.add_assoc] at hw
      obtain ⟨k1, k2, k3⟩ := hI.write hbb2 hp1 (CR.of_acr g1) g1.one (off := off + ys.length * ei.size) (by rw [hfxl]; omega) hw
      rw [setAt_eq]
      rw [← Nat.add_assoc] at k1 k2 k3 hw
      refine ⟨_, _, g3, L, _, rfl, rfl, k1, k2, k3, Nat.le_of_eq hw.size.symm, by simp, ?_⟩
      rw [List.length_set]
      refine .arr _ b off _ _ cap hbn hle fun p' hp' => ?_
      have : p' = p := by rw [hp1] at hp'; exact (Option.some.inj hp').symm
      subst this
      exact ⟨rfl, hwho, by rw [hpl]; exact hext, hplain.imp id fun g => ⟨by rw [hw.size]; exact g.1, fun o => (hw.fro _).trans (g.2 o)⟩⟩
    | false =>
      rw [hin, cond_false rfl] at h; cases h
      have hin : ¬ off + (ys.length + xs.length) * ei.size ≤ cs.length := by simpa using hin
      rw [setAt_eq]
      obtain ⟨i1, i2, i3⟩ := hI.kill b
      have hflz := flat_length _ hsizes
      by_cases hle : ys.length + xs.length ≤ cap
      · -- the cells are the new block's
        obtain ⟨c, g1, hw, g3⟩ := real_in hle
        have hclen : c.toList.length = xs.length * ei.size := by rw [Array.length_toList, g1.len, hfxl]
        have hle3 : (ys.length + xs.length) * ei.size ≤ cap * ei.size := Nat.mul_le_mul_right _ hle
        have hle4 := hle3
        rw [Nat.add_mul] at hle4
        obtain ⟨L', k1, k2, k3, k4, k5, k6⟩ := i1.reown (b := b) (rb := p.1) (lo := p.2 + off) (m := cap * ei.size) (by simp) hwho (s0 := ys.length * ei.size) (vs := c.toList) hw (by omega) (cs := flat (ys ++ xs)) (by rw [hflz, List.length_append]; exact hle3) (fun j x hj => by
          rw [flat_append, List.getElem?_append] at hj
          split at hj
          · rename_i hlt
            rw [flat_length ys hysz] at hlt
            rw [hfy] at hj
            rw [List.getElem?_take_of_lt hlt, List.getElem?_drop] at hj
            obtain ⟨_, q2, rv, q3, q4⟩ := hp2 _ x hj
            rw [← Nat.add_assoc] at q3
            refine ⟨q2, rv, ?_, ?_⟩
            · rw [hw.out _ _ (fun _ => .inl (by omega))]; exact q3
            · rw [List.length_set]; exact q4.mono (Nat.le_refl _) i2
          · rename_i hlt
            have hq := g1.vr _ x hj
            rw [flat_length ys hysz] at hj hlt
            have hlt3 : j - ys.length * ei.size < c.size := by rw [g1.len]; exact (List.getElem?_eq_some_iff.1 hj).1
            refine ⟨g1.one _ x hj, c.getD (j - (flat ys).length) default, ?_, ?_⟩
            · rw [flat_length ys hysz]
              have := hw.inn (j - ys.length * ei.size) (c.getD (j - ys.length * ei.size) default) (by simp [Array.getD, hlt3])
              rwa [show p.2 + off + ys.length * ei.size + (j - ys.length * ei.size) = p.2 + off + j by omega] at this
            · rw [List.length_set]; exact hq.mono (Nat.le_refl _) i2)
        rw [List.length_set] at k1 k2 k3 k5
        refine ⟨_, _, g3, L', _, rfl, rfl, k4, i2.trans (Nat.le_refl _) k5, fun s => (i3 s).trans (Nat.le_refl _) (k6 s), Nat.le_of_eq hw.size.symm, by simp, ?_⟩
        refine .arr _ _ 0 _ _ cap (by simp) hle fun p' hp' => ?_
        rw [k1] at hp'; cases hp'
        refine ⟨by simp, fun j hj => by simp only [Nat.add_zero]; exact k3 j hj, ?_⟩
        rw [k2, hflz, List.length_append, Nat.zero_add]
        exact ⟨hle3, hplain.imp id fun g => ⟨by rw [hw.size]; exact g.1, fun o => (hw.fro _).trans (g.2 o)⟩⟩
      · -- a new row
        obtain ⟨c, cap', g1, g2, rest, g3, g4⟩ := run_append_new (ts := ts) (ty := ty) hu hinfo hzi hA hE rfl (by omega) hbb' hb0'
        have g1' : ACR (st.hp.set b .dead).length { L with loc := fun k => if k = b then none else L.loc k } w (flat (ys ++ xs)) c := g1.mono (by simp) i2
        have hfresh := appendFresh_ok (C := C) (st := ⟨st.tmps, st.hp.set b .dead⟩) (arrM := true) (sz := ei.size) (k := xs.length) (n := ys.length) (zs := ys ++ xs) (e := e) (fp := .hw) (r := ⟨.v (.arr ei.size (st.hp.set b .dead).length 0 (ys.length + xs.length)), st.tmps, st.hp.set b .dead ++ [.cells (flat (ys ++ xs))], .hw⟩) i1 (by simp) hsizes g1' g2 (by rw [g3, hzl]) rfl
        obtain ⟨L', x, q1, q2, q3, q4, q5, q6, q7, q8⟩ := hfresh
        rw [List.length_set] at q4
        dsimp only at q1 q8
        cases q1
        refine ⟨_, _, g4, L', _, rfl, rfl, q3, i2.trans (Nat.le_refl _) q4, fun s => (i3 s).trans (Nat.le_refl _) (q5 s), q6, by simp, ?_⟩
        rw [List.length_set] at q8
        simpa using q8
  · cases h

end
end Go.Proofs.YtgbheglnmdnkoaaGreatDoor.E
namespace Go.Proofs.YtgbheglnmdnkoaaGreatDoor.E
open Go Go.RowKit Go.Lib
section
variable {P:Program} {C:Cfg}
theorem storeRange {B:Nat} {w0 w:World} {L:Lay} {hp:List Blk} (hI:Inv C.glob B w0 L w hp) {b:Nat} {cs:List AV} (hb:hp[b]?=some (.cells cs)) {p:Nat × Nat} (hp':L.loc b=some p) {off:Nat} {xs:List AV} {c:Array Value}
  (hx:ACR hp.length L w xs c) (hr:off + xs.length≤cs.length) :
  (storeCells ⟨p.1,p.2 + off,none⟩ c.toList).run P w = .ok () (w.setCells p.1 (p.2 + off) c.toList) ∧
   Inv C.glob B w0 L (w.setCells p.1 (p.2 + off) c.toList) (hp.set b (.cells (splice cs off xs)))∧Ext hp.length L w L (w.setCells p.1 (p.2 + off) c.toList) ∧
   (∀ s,KeepLoc s L w L (w.setCells p.1 (p.2 + off) c.toList))∧(w.setCells p.1 (p.2 + off) c.toList).heap.size=w.heap.size:=by
 obtain ⟨p',hp1,hpl,hp2⟩:=hI.blks b cs hb
 have:p'=p:=by rw [hp'] at hp1;exact (Option.some.inj hp1).symm
 subst this
 have hcl:c.toList.length=xs.length:=by rw [Array.length_toList,hx.len]
 have hthere:∀ j,j < c.toList.length→(w.cell? ⟨p'.1,p'.2 + off + j,none⟩).isSome=true∧w.frozen? ⟨p'.1,p'.2 + off + j,none⟩=false:=fun j hj=>by
  have hj':off + j < cs.length:=by omega
  obtain ⟨h1,_,rv,h2,_⟩:=hp2 (off + j) _ (List.getElem?_eq_getElem hj')
  rw [← Nat.add_assoc] at h1 h2
  exact ⟨by rw [h2];rfl,(hI.own _ _ _ h1).2.2⟩
 have hw:=wrote_setCells (w:=w) (rb:=p'.1) (lo:=p'.2 + off) (vs:=c.toList) (fun j hj=>(hthere j hj).1)
 obtain ⟨h1,h2,h3⟩:=hI.write hb hp' (CR.of_acr hx) hx.one hr hw
 exact ⟨run_storeCells_there hthere hx.ones,h1,h2,h3,hw.size⟩
theorem copyE_ok {B fl:Nat} {w0 w:World} {L:Lay} {st:St} (hT:TysOK P C) (hI:Inv C.glob B w0 L w st.hp) {t ty:TypeId} {ts:List TypeId} {d x:AV} {vd vx:Value} {r:Res}
  (h:copyE C fl st t d x=some r) (hd:VR st.hp.length L w d vd) (hx:VR st.hp.length L w x vx) :
  ∃ w' rv,(Builtin.copy_ (t::ts).toArray ty #[vd,vx]).run P w = .ok rv w'∧Comes C B w0 L w st r w' rv:=by
 unfold copyE at h
 split at h
 case h_2=>cases h
 rename_i e _ _ _ _ hti
 have hu:=ty_slice hT hti
 split at h
 ·cases h
 rename_i ei hei
 obtain ⟨i,hinfo,hsz,_⟩:=ty_size hT hei
 split at h
 case h_2=>cases h
 rename_i xs hxs
 split at h
 case h_2=>cases h
 rename_i sz b off len
 split at h
 case h_2=>cases h
 rename_i cs hcs
 cases hb:(decide (fl≤b)&&sz==ei.size && !(ei.size==0)&&decide (xs.length≤len)&&decide (off + xs.length * sz≤cs.length)) with
 | false=>rw [hb] at h;cases h
 | true =>
 rw [hb,cond_true rfl] at h;cases h
 simp only [Bool.and_eq_true,decide_eq_true_eq,beq_iff_eq,Bool.not_eq_true',beq_eq_false_iff_ne,ne_eq] at hb
 obtain ⟨⟨⟨⟨-,rfl⟩,h0⟩,hxl⟩,hle⟩:=hb
 obtain ⟨h1,⟨c,h2,h3⟩,h4⟩:=elems_ok (P:=P) hI h0 hxs hx
 have hbb:=blkCells_eq hcs
 obtain ⟨p,hp1,hpl,hp2⟩:=hI.blks b cs hbb
 cases hd with
 | arr _ _ _ _ a cap hbn hc ha =>
 obtain ⟨rfl,hwho,hext,_⟩:=ha p hp1
 obtain ⟨k1,k2,k3,k4,k5⟩:=storeRange (P:=P) hI hbb hp1 h2 (off:=off) (by rw [flat_length xs h1];exact hle)
 have hmin:Nat.min xs.length len=xs.length:=Nat.min_eq_left hxl
 refine ⟨_, .int .i64 xs.length, ?_,L,_,rfl,rfl,by rw [setAt_eq];exact k2,k3,k4,Nat.le_of_eq k5.symm,by rw [setAt_eq];simp, .int _ _⟩
 have h3':=h3 w fun _=>rfl
 simp [Builtin.copy_,run_underlying hu,h4,run_sizeOf hinfo,hsz,hmin,h3',k1,goInt]
theorem clearE_ok {B fl:Nat} {w0 w:World} {L:Lay} {st:St} (hT:TysOK P C) (hI:Inv C.glob B w0 L w st.hp) {t ty:TypeId} {ts:List TypeId} {d:AV} {vd:Value} {r:Res}
  (h:clearE C fl st t d=some r) (hd:VR st.hp.length L w d vd) :
  ∃ w' rv,(Builtin.clear_ (t::ts).toArray ty #[vd]).run P w = .ok rv w'∧Comes C B w0 L w st r w' rv:=by
 have tup0:∀ n L w,VR n L w (.tup []) (.tuple #[]):=fun n L w => .tup [] #[] rfl fun i x hx=>by simp at hx
 unfold clearE at h
 split at h
 case h_2=>cases h
 rename_i e _ _ _ _ hti
 have hu:=ty_slice hT hti
 split at h
 ·cases h
 rename_i ei hei
 obtain ⟨i,ed,zv,hinfo,hed,hsz,hby,hek,hzi,hzs,hzl,hzo,_,_⟩:=(hT _ _ hei).ex
 split at h
 ·cases h;cases hd
  exact ⟨w, .tuple #[],by simp [Builtin.clear_,run_underlying hu],L,_,rfl,rfl,hI,Ext.refl _ _ _,fun s=>KeepLoc.refl s L w,Nat.le_refl _,Nat.le_refl _,tup0 _ _ _⟩
 ·cases h
  cases hd
  all_goals exact ⟨w, .tuple #[],by simp [Builtin.clear_,run_underlying hu],L,_,rfl,rfl,hI,Ext.refl _ _ _,fun s=>KeepLoc.refl s L w,Nat.le_refl _,Nat.le_refl _,tup0 _ _ _⟩
 ·rename_i sz b off len
  split at h
  case h_2=>cases h
  rename_i cs hcs
  cases hb:(decide (fl≤b)&&sz==ei.size && !(ei.size==0)&&decide (off + len * sz≤cs.length)) with
  | false=>rw [hb] at h;cases h
  | true =>
  rw [hb,cond_true rfl] at h;cases h
  simp only [Bool.and_eq_true,decide_eq_true_eq,beq_iff_eq,Bool.not_eq_true',beq_eq_false_iff_ne,ne_eq] at hb
  obtain ⟨⟨⟨-,rfl⟩,h0⟩,hle⟩:=hb
  have hbb:=blkCells_eq hcs
  obtain ⟨p,hp1,hpl,hp2⟩:=hI.blks b cs hbb
  cases hd with
  | arr _ _ _ _ a cap hbn hc ha =>
  obtain ⟨rfl,hwho,hext,_⟩:=ha p hp1
  have hz0:=zero_ok st.hp.length L w hzs hzo
  have hzne:zv.cells.size≠0:=by rw [hzl];exact h0
  have hzl2:ei.zero.length=ei.size:=by rw [← hz0.len,hzl]
  have hrep:=rep_ok hz0 len hzne
  rw [zeros_rep,setAt_eq]
  obtain ⟨k1,k2,k3,k4,k5⟩:=storeRange (P:=P) hI hbb hp1 hrep (off:=off) (by rw [rep_length,hzl2];exact hle)
  by_cases hlen:len=0
  ·subst hlen
   have:splice cs off (rep ei.zero 0)=cs:=by
    simp only [rep];rw [splice_eq _ _ _ (by omega)];simp
   rw [this]
   have hset:st.hp.set b (.cells cs)=st.hp:=List.ext_getElem? fun j=>by
    by_cases hj:b=j
    ·subst hj
     rw [List.getElem?_set_self (List.getElem?_eq_some_iff.1 hbb).1,hbb]
    ·rw [List.getElem?_set_ne hj]
   rw [hset]
   exact ⟨w, .tuple #[],by simp [Builtin.clear_,run_underlying hu],L,_,rfl,rfl,hI,Ext.refl _ _ _,fun s=>KeepLoc.refl s L w,Nat.le_refl _,Nat.le_refl _,tup0 _ _ _⟩
  ·obtain ⟨len,rfl⟩:∃ m,len=m + 1:=⟨len - 1,by omega⟩
   have:(Array.range ((len + 1) * zv.cells.size)).map (zv.cells[· % zv.cells.size]!)=Builtin.zeroCells zv.cells (len + 1):=rfl
   rw [this] at k1 k2 k3 k5
   simp only [this] at k4
   exact ⟨_, .tuple #[],by simp [Builtin.clear_,run_underlying hu,run_zeroValue hinfo hzi,k1],L,_,rfl,rfl,k2,k3,k4,Nat.le_of_eq k5.symm,by simp,tup0 _ _ _⟩
 ·cases h
theorem makeSlice_ok {B:Nat} {w0 w:World} {L:Lay} {st:St} (hT:TysOK P C) (hI:Inv C.glob B w0 L w st.hp) {t e:TypeId} {a b:Nat} {zz:List AV} {q:Bool} {ei:TI} (hti:C.ty t=some ⟨.slice e,a,b,zz,q⟩) (hei:C.ty e=some ei)
  {k k':IntKind} {n m:Int} (hn:0≤n) (hnm:n≤m) (hb:m * ei.bytes≤140737488355328) (h0:ei.size≠0) (hb0:ei.bytes≠0) :
  ∃ w' rv,(Instr.makeSlice t (.int k n) (.int k' m)).run P w = .ok rv w' ∧
   Comes C B w0 L w st ⟨.v (.arr ei.size st.hp.length 0 n.toNat),st.tmps,st.hp++[.cells (zeros ei m.toNat)], .hw⟩ w' rv:=by
 have hu:=ty_slice hT hti
 obtain ⟨i,ed,zv,hinfo,hed,hsz,hby,hek,hzi,hzs,hzl,hzo,_,_⟩:=(hT _ _ hei).ex
 have hz0:=zero_ok st.hp.length L w hzs hzo
 have hzne:zv.cells.size≠0:=by rw [hzl];exact h0
 have hzl2:ei.zero.length=ei.size:=by rw [← hz0.len,hzl]
 have hrep:=rep_ok hz0 m.toNat hzne
 have hm0:0≤m:=by omega
 have hmle:m≤140737488355328:=by
  have h1:(1:Int)≤ei.bytes:=by omega
  have:=Int.mul_le_mul_of_nonneg_left h1 hm0
  omega
 have wrapOf:∀ x:Int,0≤x→x≤140737488355328→IntKind.i64.wrap x=x:=fun x h1 h2=>by
  unfold IntKind.wrap
  simp [IntKind.signed,IntKind.bits]
  omega
 have ha:=alloc_alloc w ((Array.range (m.toNat * zv.cells.size)).map (zv.cells[· % zv.cells.size]!)) e
 obtain ⟨L',h1,h2,h3,h4,h5,h6⟩:=newHeap hI hrep ha (fun _ _ h=>h)
 refine ⟨_, .slice (some ⟨w.heap.size,0,none⟩) n.toNat m.toNat, ?_,L',_,rfl,rfl,by rw [zeros_rep];exact h4,h5,h6,by simp,by simp, ?_⟩
 ·have c1:¬ ((281474976710656:Int) < (i.bytes:Int) * m):=by rw [hby,Int.mul_comm];omega
  have c2:¬ m < 0:=by omega
  have c3:¬ n < 0:=by omega
  have c4:¬ m < n:=by omega
  by_cases hz:m.toNat * i.size=0
  ·have hm:m.toNat=0:=by
    rcases Nat.mul_eq_zero.1 hz with g | g
    ·exact g
    ·omega
   simp [Instr.makeSlice,run_underlying hu,asInt,asIntOf,run_typeInfo hinfo,wrapOf n hn (by omega),wrapOf m hm0 hmle,c1,c2,c3,c4,run_sizeOf hinfo,run_newRow,hm]
   have hr0:Array.range 0 = #[]:=by decide
   simp [hr0]
  ·rw [hsz] at hz
   have hz:¬ (m.toNat=0∨ei.size=0):=fun g=>hz (Nat.mul_eq_zero.2 g)
   simp [Instr.makeSlice,run_underlying hu,asInt,asIntOf,run_typeInfo hinfo,wrapOf n hn (by omega),wrapOf m hm0 hmle,c1,c2,c3,c4,run_sizeOf hinfo,run_newRow,run_zeroValue hinfo hzi,hsz,hzl]
   intro g;exact absurd g (fun g=>hz (Nat.mul_eq_zero.1 g))
 ·refine .arr _ _ 0 _ _ _ (by simp) (by omega) fun p hp => ?_
  rw [h1] at hp;cases hp
  refine ⟨by simp,fun j hj => ?_, ?_⟩
  ·simp only [Nat.zero_add];exact h3 j (by simp;rw [hzl];exact hj)
  ·rw [h2,rep_length,hzl2,Nat.zero_add]
   exact ⟨Nat.le_refl _, .inr ⟨by rw [ha.size];exact Nat.lt_succ_self _,fun o=>World.frozen?_alloc_new w _ e o⟩⟩
theorem buildSliceB_ok {B base:Nat} {w0 w:World} {L:Lay} {st:St} {rt:Array Value} {ds:List Deferred} (hT:TysOK P C) (hI:Inv C.glob B w0 L w st.hp) (hF:FR st.hp.length L w base st.tmps rt)
  {t e:TypeId} {a b:Nat} {zz:List AV} {q:Bool} {ei:TI} {len:Nat} {ps:Array (Nat × Operand)} {vs:List (Nat × AV)} {z:AV} {xs:List AV} (hti:C.ty t=some ⟨.slice e,a,b,zz,q⟩) (hei:C.ty e=some ei)
  (hz:valOf ei ei.zero=some z) (hv:valParts C st.tmps ps.toList=some vs) (hzl:z.cells.length=ei.size) (hzt:z.noTup=true) (h0:ei.size≠0) (hle:len * ei.size≤16777216)
  (h:setParts ei.size (List.replicate len z) vs=some xs) :
  ∃ w' rv,(Instr.buildSlice t len (ps.map fun (i,x)=>(i,({ tmps:=rt,defers:=ds }:Act).eval x))).run P w = .ok rv w' ∧
   Comes C B w0 L w st ⟨.v (.arr ei.size st.hp.length 0 len),st.tmps,st.hp++[.cells (flat xs)], .hw⟩ w' rv:=by
 obtain ⟨rr,g1,g2,g3,hlen⟩:=buildSlice_run (ds:=ds) hT hI hF hti hei hz hv hzl hzt h0 hle h
 have ha:=alloc_alloc w rr e
 obtain ⟨L',h1,h2,h3,h4,h5,h6⟩:=newHeap hI g2 ha (fun _ _ h=>h)
 refine ⟨_,_,g1,L',_,rfl,rfl,h4,h5,h6,by simp,by simp, ?_⟩
 have hfl:=flat_length xs g3
 refine .arr _ _ 0 _ _ _ (by simp) (Nat.le_refl _) fun p hp => ?_
 rw [h1] at hp;cases hp
 refine ⟨by simp,fun j hj => ?_, ?_⟩
 ·simp only [Nat.zero_add];exact h3 j (by rw [g2.len,hfl,hlen];exact hj)
 ·rw [h2,hfl,hlen,Nat.zero_add]
  exact ⟨Nat.le_refl _, .inr ⟨by rw [ha.size];exact Nat.lt_succ_self _,fun o=>World.frozen?_alloc_new w _ e o⟩⟩
theorem bytesOf_ok {n:Nat} {L:Lay} {w:World}:∀ {xs:List AV} {l:List UInt8} {c:List Value},bytesOf xs=some l→CR n L w (flat xs) c →
  ∃ ns:List Int,c=ns.map (Value.int .u8)∧l=ns.map fun n=>UInt8.ofNat n.toNat
 | [],l,c,h,hc=>by
  simp [bytesOf] at h;subst h
  have:c=[]:=List.length_eq_zero_iff.1 (by have:=hc.1;simpa [flat] using this)
  exact ⟨[],this,rfl⟩
 | x::xs,l,c,h,hc=>by
  unfold bytesOf at h
  split at h
  ·rename_i heq;cases heq
  ·rename_i m ys heq
   cases heq
   split at h
   ·rename_i r hr
    cases h
    cases c with
    | nil=>have:=hc.1;simp [flat,AV.cells] at this
    | cons v c =>
     have hv:=hc.2 0 (.int .u8 m) v rfl rfl
     obtain ⟨ns,h1,h2⟩:=bytesOf_ok (c:=c) hr ⟨by have:=hc.1;simp [flat,AV.cells] at this;exact this,fun i x v hx hv=>hc.2 (i + 1) x v (by simpa [flat,AV.cells] using hx) (by simpa using hv)⟩
     have:=intOf_ok hv
     subst this
     exact ⟨m::ns,by simp [h1],by simp [h2]⟩
   ·cases h
  ·cases h
theorem pushAll (ns:List Int):∀ s:ByteArray,(ns.foldl (fun r n=>r.push (UInt8.ofNat n.toNat)) s).data.toList=s.data.toList++ns.map fun n=>UInt8.ofNat n.toNat:=by
 induction ns with
 | nil=>intro s;simp
 | cons n ns ih=>intro s;simp [ih]
theorem bytesWorld_alloc (w:World) (e:TypeId) (s:ByteArray):Alloc w (bytesWorld w e s) (bytesCells w e s) where
 size:=bytesWorld_size w e s
 old a h:=⟨World.cell?_of_block (bytesWorld_at_old w e s a.block h),World.frozen?_of_block (bytesWorld_at_old w e s a.block h)⟩
 new o:=by simp [World.cell?,bytesWorld_at_new]
 fro o ho:=by simp [World.frozen?,bytesWorld_at_new];omega
 below B w0 hB h:=⟨h.os,h.tape,h.output,by have:=h.size;rw [bytesWorld_size];omega,fun k hk=>(bytesWorld_at_old w e s k (by omega)).trans (h.block k hk)⟩
 obj:=KeepO.of fun r hr=>bytesWorld_at_old w e s r hr
theorem convE_ok {B:Nat} {w0 w:World} {L:Lay} {st:St} (hT:TysOK P C) (hI:Inv C.glob B w0 L w st.hp) {arrM:Bool} {src dst:TypeId} {x:AV} {vx:Value} {r:Res}
  (h:convE C arrM st src dst x=some r) (hx:VR st.hp.length L w x vx):∃ w' rv,(convert src dst vx).run P w = .ok rv w'∧Comes C B w0 L w st r w' rv:=by
 have pureC:∀ y rv,(convert src dst vx).run P w = .ok rv w→VR st.hp.length L w y rv→ofO st (some y)=some r→∃ w' rv,(convert src dst vx).run P w = .ok rv w'∧Comes C B w0 L w st r w' rv:=fun y rv h1 h2 h3=>by
  cases h3
  exact ⟨w,rv,h1,L,y,rfl,rfl,hI,Ext.refl _ _ _,fun s=>KeepLoc.refl s L w,Nat.le_refl _,Nat.le_refl _,h2⟩
 unfold convE at h
 split at h
 ·rename_i _ k _ _ _ _ _ m h1 h2
  obtain ⟨_,d1,_,_,hd1, -⟩:=(hT _ _ h1).ex
  have hu:=ty_int hT h2
  cases hx
  exact pureC _ (.int k (k.wrap m)) (by simp [convert,run_underlying hd1,run_underlying hu,Conv.intToInt]) (.int _ _) h
 ·rename_i _ _ _ _ _ l h1 h2
  obtain ⟨_,d1,_,_,hd1, -⟩:=(hT _ _ h1).ex
  have hu:=ty_string hT h2
  cases hx with
  | str _ s hs=>exact pureC _ (.string s) (by simp [convert,run_underlying hd1,run_underlying hu]) (.str _ s hs) h
 ·rename_i _ e _ _ _ _ l h1 h2
  obtain ⟨_,d1,_,_,hd1, -⟩:=(hT _ _ h1).ex
  have hu:=ty_slice hT h2
  split at h
  ·rename_i h3
   have he:=ty_int hT h3
   cases hx with
   | str _ s hs =>
   subst hs
   have hrun:=run_convert_string_bytes (P:=P) w src dst e s hd1 hu he
   have ha:=bytesWorld_alloc w e s
   have hz:s.size=s.data.toList.length:=by rw [Array.length_toList];rfl
   have hacr:=bytes_acr st.hp.length L w s
   have hcap:s.size≤grownCap w s.size 0 e:=grownCap_ge w s.size 0 e
   have hpre:∀ (j:Nat) v,(s.data.map fun b=>Value.int .u8 b.toNat)[j]?=some v→(bytesCells w e s)[j]?=some v:=fun j v hv=>by
    have hj:=(Array.getElem?_eq_some_iff.1 hv).1
    unfold bytesCells
    rw [Array.getElem?_append_left hj];exact hv
   have hcsz:(bytesCells w e s).size=grownCap w s.size 0 e:=by
    unfold bytesCells
    rw [Array.size_append,Array.size_map,Array.size_replicate]
    show s.size + _=_
    omega
   cases arrM with
   | true =>
    rw [cond_true rfl] at h
    simp only [newBlk,Option.some.injEq] at h
    subst h
    obtain ⟨L',h1,h2,h3,h4,h5,h6⟩:=newHeap hI hacr ha hpre
    refine ⟨_,_,hrun,L',_,rfl,rfl,h4,h5,h6,by rw [bytesWorld_size];omega,by simp, ?_⟩
    rw [← hz]
    refine .arr 1 _ 0 _ _ _ (by simp) hcap fun p hp => ?_
    rw [h1] at hp;cases hp
    refine ⟨by simp,fun j hj => ?_, ?_⟩
    ·simp only [Nat.zero_add];exact h3 j (by rw [hcsz];omega)
    ·rw [h2];exact ⟨by simp;omega, .inl rfl⟩
   | false =>
    rw [cond_false rfl] at h
    cases h
    obtain ⟨k1,k2,k3⟩:=hI.addRow ha (fun o=>if o < s.size then .imm else .none) (fun o=>⟨fun b=>by split <;> simp,fun g=>by split <;> simp⟩)
    have hsizes:∀ y ∈ (s.data.toList.map fun c=>AV.int .u8 c.toNat),y.cells.length=1:=fun y hy=>by
     obtain ⟨c,_,rfl⟩:=List.mem_map.1 hy;rfl
    have hlen:(s.data.toList.map fun c=>AV.int .u8 c.toNat).length=s.size:=by rw [List.length_map,hz]
    have:=newLit (n':=st.hp.length) (c:=s.data.map fun b=>Value.int .u8 b.toNat) (by rw [flat_bytes];exact hacr) hsizes (grownCap w s.size 0 e) (by rw [hlen];exact hcap) .sealed (bytesWorld w e s) (L.add w.heap.size (fun o=>if o < s.size then .imm else .none)) (Nat.le_refl _) ha hpre
     (fun o ho=>by rw [Array.size_map] at ho;rw [Lay.add_eq];exact if_pos ho) k2 trivial
    rw [hlen] at this
    exact ⟨_,_,hrun,_,_,rfl,rfl,k1,k2,k3,by rw [bytesWorld_size];omega,Nat.le_refl _,this⟩
  ·cases h
 ·rename_i x _ _ _ e _ _ _ _ _ _ _ _ h1 h2 hneg
  have hs:=ty_slice hT h1
  have hd:=ty_string hT h2
  cases hb:(!isSlc x) with
  | true=>rw [hb] at h;cases h
  | false =>
  rw [hb,cond_false rfl] at h
  split at h
  ·rename_i h3
   have he:=ty_int hT h3
   split at h
   ·rename_i xs hxs
    simp only [Option.map_eq_some_iff] at h
    obtain ⟨l,hl,rfl⟩:=h
    obtain ⟨g1,⟨c,g2,g3⟩,g4⟩:=elems_ok (P:=P) hI (by decide) hxs hx
    obtain ⟨base,cap,rfl,hcap,hbase⟩:=slc_val (by decide) (by simpa using hb) hx hxs (hI.chunkLen (by decide))
    obtain ⟨ns,n1,n2⟩:=bytesOf_ok hl (CR.of_acr g2)
    refine ⟨w, .string (ns.foldl (fun r n=>r.push (UInt8.ofNat n.toNat)) ByteArray.empty), ?_,L,_,rfl,rfl,hI,Ext.refl _ _ _,fun s=>KeepLoc.refl s L w,Nat.le_refl _,Nat.le_refl _, .str _ _ (by rw [pushAll,n2];simp)⟩
    rw [run_convert_bytes_string w src dst e base _ _ hs he hd]
    cases base with
    | none =>
     have hc0:xs=[]:=by
      have h5:=g3 w fun _=>rfl
      simp only [Builtin.firstCells,Sem.run_pure,Result.ok.injEq,and_true] at h5
      have:=g2.len
      rw [← h5,flat_length xs g1] at this
      exact List.length_eq_zero_iff.1 (by simpa using this.symm)
     subst hc0
     have:ns=[]:=by
      have h6:=g2.len;simp [flat] at h6
      have h7:c.toList=[]:=by rw [h6]
      rw [h7] at n1
      exact (List.map_eq_nil_iff.1 n1.symm)
     subst this
     simp [Conv.bytesToString]
    | some a =>
     refine run_bytesToString w a _ cap ns ?_
     have h5:=g3 w fun _=>rfl
     simp only [Builtin.firstCells,Nat.mul_one] at h5
     rw [h5,← n1]
   ·cases h
  ·cases h
 ·cases h
end
section
variable {P:Program} {C:Cfg}
theorem alloc_obj (w:World) {x:Obj} (hx:rowO x=false):Alloc w (w.alloc x) #[] where
 size:=by simp
 old a h:=⟨World.cell?_alloc_lt w _ a h,World.frozen?_alloc_old w _ a (Nat.ne_of_lt h)⟩
 new o:=by
  show (match (w.heap.push x)[w.heap.size]? with | some (.cells c _ _)=>_ | _=>none)=_
  rw [Array.getElem?_push_size]
  cases x <;> first | rfl | cases hx
 fro o h:=by simp at h
 below B w0 hB h:=h.alloc hB _
 obj:=KeepO.of fun r hr=>by show (w.heap.push _)[r]?=_;rw [Array.getElem?_push,if_neg (Nat.ne_of_lt hr)]
theorem Inv.addObj {glob:Nat→Option AV} {B:Nat} {w0:World} {hp:List Blk} {L:Lay} {w:World} (hI:Inv glob B w0 L w hp) {o:Ob} {x:Obj} (hx:ObR hp.length L w o x) :
  ∃ L',L'.loc hp.length=some (w.heap.size,0)∧Inv glob B w0 L' (w.alloc x) (hp++[.obj o])∧Ext hp.length L w L' (w.alloc x)∧∀ s,KeepLoc s L w L' (w.alloc x):=by
 have h:=alloc_obj w hx.row
 let L':Lay:={ L with loc:=fun b=>if b=hp.length then some (w.heap.size,0) else L.loc b }
 obtain ⟨he,hk⟩:=h.ext (L':=L') (n:=hp.length) hI (fun r o hr=>rfl) (fun b hb=>⟨if_neg (by omega),rfl⟩) (fun b hb=>rfl)
 have hlen:(hp++[Blk.obj o]).length=hp.length + 1:=by simp
 have back:∀ {b:Nat} {y:Blk},(∀ o,y ≠ .obj o)→(hp++[Blk.obj o])[b]?=some y→hp[b]?=some y:=fun {b y} hy hb=>by
  have hlt:=(List.getElem?_eq_some_iff.1 hb).1
  rw [hlen] at hlt
  by_cases hbn:b=hp.length
  ·subst hbn;rw [List.getElem?_append_right (Nat.le_refl _)] at hb;simp at hb;exact absurd hb.symm (hy o)
  ·rw [← hb,List.getElem?_append_left];omega
 refine ⟨L',if_pos rfl,⟨h.below B w0 hI.size hI.below,by have:=hI.size;rw [h.size];omega, ?_, ?_, ?_, ?_, ?_, ?_, ?_, ?_, ?_, ?_⟩,he,hk⟩
 ·intro b cs2 hb
  have hb':=back (fun _=>Blk.noConfusion) hb
  rw [hlen]
  obtain ⟨p,hp1,hql,h2⟩:=hI.blks b cs2 hb'
  have hbl:=(List.getElem?_eq_some_iff.1 hb').1
  refine ⟨p,(if_neg (by omega)).trans hp1,hql,fun j x hx => ?_⟩
  obtain ⟨h3,ho,rv,h4,h5⟩:=h2 j x hx
  have hlt:=cell_lt ⟨rv,h4⟩
  exact ⟨h3,ho,rv,((h.old ⟨p.1,p.2 + j,none⟩ hlt).1).trans h4,h5.mono (by omega) he⟩
 ·intro r o b hr
  obtain ⟨h1,⟨v,h2⟩,h3⟩:=hI.own r o b hr
  have hlt:=cell_lt ⟨v,h2⟩
  exact ⟨h1,⟨v,((h.old ⟨r,o,none⟩ hlt).1).trans h2⟩,((h.old ⟨r,o,none⟩ hlt).2).trans h3⟩
 ·intro g m hg
  exact hI.fams g m (back (fun _=>Blk.noConfusion) hg)
 ·intro r o g hr
  obtain ⟨h1,⟨v,h2⟩,h3⟩:=hI.spare r o g hr
  have hlt:=cell_lt ⟨v,h2⟩
  exact ⟨h1,⟨v,((h.old ⟨r,o,none⟩ hlt).1).trans h2⟩,((h.old ⟨r,o,none⟩ hlt).2).trans h3⟩
 ·intro r o hr
  rw [h.size] at hr
  exact hI.fresh r o (by omega)
 ·intro b hb
  rw [hlen] at hb
  show (if b=hp.length then _ else _)=_
  rw [if_neg (by omega)]
  exact hI.noLoc b (by omega)
 ·intro b hb;rw [hlen] at hb;exact hI.noFam b (by omega)
 ·intro g v hg;exact (hI.globs g v hg).mono (Nat.le_refl _) (he.less (Nat.zero_le _))
 ·have at0:∀ {b:Nat} {q:Ob},(hp++[Blk.obj o])[b]?=some (.obj q)→(b=hp.length∧q=o)∨hp[b]?=some (.obj q):=fun {b q} hb=>by
   rcases Nat.lt_or_ge b hp.length with hbl | hbl
   ·rw [List.getElem?_append_left hbl] at hb;exact .inr hb
   ·rw [List.getElem?_append_right hbl] at hb
    have hm:=List.mem_of_getElem? hb
    have hl:=(List.getElem?_eq_some_iff.1 hb).1
    simp at hm hl
    exact .inl ⟨by omega,hm⟩
  have lts:∀ {b:Nat} {q:Ob} {r:Nat},hp[b]?=some (.obj q)→L'.loc b=some (r,0)→r < w.heap.size:=fun {b q r} hb hl=>by
   obtain ⟨r',k1,_,x',k3,_⟩:=hI.objs.at_ b q hb
   have:L'.loc b=L.loc b:=if_neg (Nat.ne_of_lt (obj_lt hb))
   rw [this,k1] at hl
   cases hl
   exact (Array.getElem?_eq_some_iff.1 k3).1
  refine ⟨fun b q hb => ?_,fun b c q q' r hb hc h1 h2 => ?_⟩
  ·rw [hlen]
   rcases at0 hb with ⟨rfl,rfl⟩ | hb
   ·exact ⟨w.heap.size,if_pos rfl,hI.size,x,by show (w.heap.push x)[w.heap.size]?=_;rw [Array.getElem?_push_size],hx.mono (by omega) he⟩
   ·obtain ⟨r,k1,k2,x',k3,k4⟩:=hI.objs.at_ b q hb
    exact ⟨r,(if_neg (Nat.ne_of_lt (obj_lt hb))).trans k1,k2,x',h.obj r x' k3 k4.row,k4.mono (by omega) he⟩
  ·rcases at0 hb with ⟨rfl,_⟩ | hb
   ·rcases at0 hc with ⟨rfl,_⟩ | hc
    ·rfl
    ·have e:L'.loc hp.length=some (w.heap.size,0):=if_pos rfl
     rw [e] at h1;cases h1
     exact absurd (lts hc h2) (Nat.lt_irrefl _)
   ·rcases at0 hc with ⟨rfl,_⟩ | hc
    ·have e:L'.loc hp.length=some (w.heap.size,0):=if_pos rfl
     rw [e] at h2;cases h2
     exact absurd (lts hb h1) (Nat.lt_irrefl _)
    ·have e1:L'.loc b=L.loc b:=if_neg (Nat.ne_of_lt (obj_lt hb))
     have e2:L'.loc c=L.loc c:=if_neg (Nat.ne_of_lt (obj_lt hc))
     rw [e1] at h1
     rw [e2] at h2
     exact hI.objs.apart b c q q' r hb hc h1 h2
 ·exact hI.kept
def putO (w:World) (r:Nat) (x:Obj):World:={ w with heap:=w.heap.setIfInBounds r x }
theorem putO_size (w:World) (r:Nat) (x:Obj):(putO w r x).heap.size=w.heap.size:=by simp [putO]
theorem putO_ne {w:World} {r k:Nat} {x:Obj} (h:k≠r):(putO w r x).heap[k]?=w.heap[k]?:=by simp [putO,Ne.symm h]
theorem putO_eq {w:World} {r:Nat} {x y:Obj} (h:w.heap[r]?=some y):(putO w r x).heap[r]?=some x:=by
 have:=(Array.getElem?_eq_some_iff.1 h).1
 simp [putO,this]
theorem cell_row {w:World} {r o:Nat} {x:Obj} (h:w.heap[r]?=some x) (hx:rowO x=false):w.cell? ⟨r,o,none⟩=none:=by
 unfold World.cell?
 dsimp only
 rw [h]
 cases x <;> first | rfl | cases hx
theorem frozen_row {w:World} {r o:Nat} {x:Obj} (h:w.heap[r]?=some x) (hx:rowO x=false):w.frozen? ⟨r,o,none⟩=false:=by
 unfold World.frozen?
 dsimp only
 rw [h]
 cases x <;> first | rfl | cases hx
theorem putO_cell {w:World} {r:Nat} {x y:Obj} (h:w.heap[r]?=some y) (hy:rowO y=false) (hx:rowO x=false) (k o:Nat):(putO w r x).cell? ⟨k,o,none⟩=w.cell? ⟨k,o,none⟩∧(putO w r x).frozen? ⟨k,o,none⟩=w.frozen? ⟨k,o,none⟩:=by
 by_cases e:k=r
 ·subst e
  exact ⟨(cell_row (putO_eq h) hx).trans (cell_row h hy).symm,(frozen_row (putO_eq h) hx).trans (frozen_row h hy).symm⟩
 ·exact ⟨World.cell?_of_block (putO_ne e),World.frozen?_of_block (putO_ne e)⟩
theorem Inv.setObj {glob:Nat→Option AV} {B:Nat} {w0:World} {hp:List Blk} {L:Lay} {w:World} (hI:Inv glob B w0 L w hp) {b r:Nat} {o o':Ob} {x':Obj} (hb:hp[b]?=some (.obj o)) (hl:L.loc b=some (r,0)) (hx:ObR hp.length L w o' x') :
  Inv glob B w0 L (putO w r x') (hp.set b (.obj o'))∧Ext hp.length L w L (putO w r x')∧(∀ s,KeepLoc s L w L (putO w r x'))∧(putO w r x').heap.size=w.heap.size:=by
 obtain ⟨r0,k1,k2,x,k3,k4⟩:=hI.objs.at_ b o hb
 rw [hl] at k1;cases k1
 have hc:=putO_cell (x:=x') k3 k4.row hx.row
 have he:Ext hp.length L w L (putO w r x'):=⟨fun k o h=>⟨h,(hc k o).1⟩,fun _ p _ h=>⟨h,fun _ _ h=>h,rfl⟩,fun g F _ h=>⟨F,h, .inl rfl⟩,Nat.le_of_eq (putO_size w r x').symm,fun k o _=>(hc k o).2,fun _ _ _ h=>h⟩
 have hbl:=(List.getElem?_eq_some_iff.1 hb).1
 have back:∀ {c:Nat} {y:Blk},(∀ o,y ≠ .obj o)→(hp.set b (.obj o'))[c]?=some y→hp[c]?=some y:=fun {c y} hy h=>by
  by_cases e:b=c
  ·subst e;rw [List.getElem?_set_self hbl] at h;exact absurd (Option.some.inj h).symm (hy o')
  ·rwa [List.getElem?_set_ne e] at h
 refine ⟨⟨⟨hI.below.os,hI.below.tape,hI.below.output,by rw [putO_size];exact hI.below.size,fun k hk=>(putO_ne (by omega)).trans (hI.below.block k hk)⟩,by rw [putO_size];exact hI.size, ?_, ?_, ?_, ?_, ?_, ?_, ?_, ?_, ?_,hI.kept⟩,he,fun s k o t _ h=>⟨h,(hc k o).1,(hc k o).2⟩,putO_size _ _ _⟩
 ·intro c cs h
  obtain ⟨p,h1,h2,h3⟩:=hI.blks c cs (back (fun _=>Blk.noConfusion) h)
  rw [List.length_set]
  refine ⟨p,h1,h2,fun j y hy => ?_⟩
  obtain ⟨h4,h5,rv,h6,h7⟩:=h3 j y hy
  exact ⟨h4,h5,rv,((hc _ _).1).trans h6,h7.mono (Nat.le_refl _) he⟩
 ·intro k o c h
  obtain ⟨h1,⟨v,h2⟩,h3⟩:=hI.own k o c h
  exact ⟨h1,⟨v,((hc _ _).1).trans h2⟩,((hc _ _).2).trans h3⟩
 ·intro g m h;exact hI.fams g m (back (fun _=>Blk.noConfusion) h)
 ·intro k o g h
  obtain ⟨h1,⟨v,h2⟩,h3⟩:=hI.spare k o g h
  exact ⟨h1,⟨v,((hc _ _).1).trans h2⟩,((hc _ _).2).trans h3⟩
 ·intro k o h;rw [putO_size] at h;exact hI.fresh k o h
 ·intro c h;rw [List.length_set] at h;exact hI.noLoc c h
 ·intro c h;rw [List.length_set] at h;exact hI.noFam c h
 ·intro g v hg;exact (hI.globs g v hg).mono (Nat.le_refl _) (he.less (Nat.zero_le _))
 ·have at0:∀ {c:Nat} {q:Ob},(hp.set b (.obj o'))[c]?=some (.obj q)→(c=b∧q=o')∨(c≠b∧hp[c]?=some (.obj q)):=fun {c q} h=>by
   by_cases e:b=c
   ·subst e;rw [List.getElem?_set_self hbl] at h;cases h;exact .inl ⟨rfl,rfl⟩
   ·rw [List.getElem?_set_ne e] at h;exact .inr ⟨fun e'=>e e'.symm,h⟩
  have old:∀ {c:Nat} {q:Ob},(hp.set b (.obj o'))[c]?=some (.obj q)→∃ q',hp[c]?=some (.obj q'):=fun {c q} h=>by
   rcases at0 h with ⟨rfl,_⟩ | ⟨_,h⟩
   ·exact ⟨o,hb⟩
   ·exact ⟨q,h⟩
  refine ⟨fun c q h => ?_,fun c d q q' s h h' h1 h2 => ?_⟩
  ·rw [List.length_set]
   rcases at0 h with ⟨rfl,rfl⟩ | ⟨hne,h⟩
   ·exact ⟨r,hl,k2,x',putO_eq k3,hx.mono (Nat.le_refl _) he⟩
   ·obtain ⟨r',g1,g2,y,g3,g4⟩:=hI.objs.at_ c q h
    have hrr:r'≠r:=fun e=>by subst e;exact hne (hI.objs.apart c b q o r' h hb g1 hl)
    exact ⟨r',g1,g2,y,(putO_ne hrr).trans g3,g4.mono (Nat.le_refl _) he⟩
  ·obtain ⟨p1,hp1⟩:=old h
   obtain ⟨p2,hp2⟩:=old h'
   exact hI.objs.apart c d p1 p2 s hp1 hp2 h1 h2
theorem blkObj_eq {hp:List Blk} {b:Nat} {o:Ob} (h:blkObj hp b=some o):hp[b]?=some (.obj o):=by
 unfold blkObj at h
 rw [getAt_eq] at h
 split at h
 ·rename_i e;cases h;exact e
 ·cases h
theorem ty_map (hT:TysOK P C) {t:TypeId} {ti:TI} (h:mapT C t=some ti):∃ k e,P.underlying t=some (.map k e)∧P.underlying k=some .string∧C.ty e=some ti:=by
 unfold mapT at h
 split at h
 ·rename_i k e _ _ _ _ h1
  split at h
  ·rename_i h2
   obtain ⟨_,d,_,_,hd,_,_,hk, -⟩:=(hT _ _ h1).ex
   obtain ⟨_,d2,_,_,hd2,_,_,hk2, -⟩:=(hT _ _ h2).ex
   refine ⟨k,e, ?_, ?_,h⟩
   ·rw [hd]
    cases d <;> simp only [tkOf,reduceCtorEq,TK.map.injEq] at hk
    obtain ⟨rfl,rfl⟩:=hk
    rfl
   ·rw [hd2]
    cases d2 <;> simp only [tkOf,reduceCtorEq] at hk2
    rfl
  ·cases h
 ·cases h
theorem run_newObj (w:World) (x:Obj):(newObj x).run P w = .ok w.heap.size (w.alloc x):=rfl
theorem newObjE_ok {B:Nat} {w0 w:World} {L:Lay} {st:St} (hI:Inv C.glob B w0 L w st.hp) {o:Ob} {x:Obj} (hx:ObR st.hp.length L w o x) {mk:Nat→AV} {r:Res} (h:newObjE st o mk=some r) {rv:Value}
  (hv:∀ L',L'.loc st.hp.length=some (w.heap.size,0)→VR (st.hp.length + 1) L' (w.alloc x) (mk st.hp.length) rv):Comes C B w0 L w st r (w.alloc x) rv:=by
 simp only [newObjE,Option.some.injEq] at h
 subst h
 obtain ⟨L',h1,h2,h3,h4⟩:=hI.addObj hx
 have hl:(st.hp++[Blk.obj o]).length=st.hp.length + 1:=by simp
 exact ⟨L',_,rfl,rfl,h2,h3,h4,by show w.heap.size≤(w.heap.push x).size;simp,by dsimp only;omega,by dsimp only;rw [hl];exact hv L' h1⟩
theorem rangeE_ok {B:Nat} {w0 w:World} {L:Lay} {st:St} (hT:TysOK P C) (hI:Inv C.glob B w0 L w st.hp) {t:TypeId} {x:AV} {vx:Value} {r:Res} (h:rangeE C st t x=some r) (hx:VR st.hp.length L w x vx) :
  ∃ w' rv,(Instr.range t vx).run P w = .ok rv w'∧Comes C B w0 L w st r w' rv:=by
 unfold rangeE at h
 split at h
 ·rename_i s h1
  obtain ⟨_,d,_,_,hd,_,_,hk, -⟩:=(hT _ _ h1).ex
  have hd:P.underlying t=some .string:=by
   rw [hd]
   cases d <;> simp only [tkOf,reduceCtorEq] at hk
   rfl
  cases hx with
  | str _ b hs =>
   refine ⟨w.alloc (.stringIter b 0), .pointer (some ⟨w.heap.size,0,none⟩), ?_,newObjE_ok hI (o := .sit s 0) (x := .stringIter b 0) ⟨b,hs,rfl⟩ h fun L' hl => .ptr _ _ _ (by omega) fun p hp => ?_⟩
   ·simp [Instr.range,run_underlying hd,run_newObj,Result.andThen]
   ·rw [hl] at hp;cases hp;rfl
 ·cases h
theorem makeMapE_ok {B:Nat} {w0 w:World} {L:Lay} {st:St} (hI:Inv C.glob B w0 L w st.hp) {t:TypeId} {r:Res} (h:makeMapE C st t=some r) :
  ∃ w' rv,(Instr.makeMap t none).run P w = .ok rv w'∧Comes C B w0 L w st r w' rv:=by
 unfold makeMapE at h
 split at h
 ·refine ⟨w.alloc (.map #[] 0), .map (some w.heap.size), ?_,newObjE_ok hI (o := .mp []) (x := .map #[] 0) ⟨#[],0,⟨rfl,MapKept.stamped_empty 0⟩,rfl,fun i k v h=>by simp at h⟩ h fun L' hl => .mpr _ _ (by omega) fun p hp => ?_⟩
  ·simp [Instr.makeMap,run_newObj,Result.andThen]
  ·rw [hl] at hp;cases hp;rfl
 ·cases h
theorem run_getObj {w:World} {r:Nat} {x:Obj} (h:w.heap[r]?=some x) (hx:rowO x=false):(getObj r).run P w = .ok x w:=by
 simp only [getObj,Sem.run,h]
 cases x <;> first | rfl | cases hx
theorem run_setObj {w:World} {r:Nat} {x y:Obj} (h:w.heap[r]?=some x) (hx:rowO x=false):(setObj r y).run P w = .ok () (putO w r y):=by
 simp only [setObj,Sem.run,h]
 cases x <;> first | rfl | cases hx
theorem obj_of {B:Nat} {w0 w:World} {L:Lay} {hp:List Blk} (hI:Inv C.glob B w0 L w hp) {b:Nat} {o:Ob} (h:blkObj hp b=some o):∃ r x,L.loc b=some (r,0)∧w.heap[r]?=some x∧ObR hp.length L w o x:=by
 obtain ⟨r,h1,_,x,h2,h3⟩:=hI.objs.at_ b o (blkObj_eq h)
 exact ⟨r,x,h1,h2,h3⟩
theorem nextE_ok {B fl:Nat} {w0 w:World} {L:Lay} {st:St} (hI:Inv C.glob B w0 L w st.hp) {ty:TypeId} {x:AV} {vx:Value} {s:Bool} {r:Res} (h:nextE fl st x s=some r) (hx:VR st.hp.length L w x vx) :
  ∃ w' rv,(Instr.next vx s ty).run P w = .ok rv w'∧Comes C B w0 L w st r w' rv:=by
 unfold nextE at h
 simp only [cond_eq_ite] at h
 split at h
 case h_2=>cases h
 rename_i b
 split at h
 case h_2=>cases h
 rename_i s pos hb
 obtain ⟨rr,x,h1,h2,h3⟩:=obj_of hI hb
 obtain ⟨sb,hs,rfl⟩:=h3
 cases hx with
 | ptr _ _ a hbl ha =>
  have:=ha _ h1
  subst this
  have hsz:sb.size=s.length:=by rw [← hs];simp
  have hdec:(⟨s.toArray⟩:ByteArray)=sb:=by rw [← hs]
  split at h
  ·cases h
  split at h
  ·rename_i hlt
   have hlt:pos < s.length:=by simpa using hlt
   cases h
   obtain ⟨g1,g2,g3,g4⟩:=hI.setObj (o' := .sit s (pos + (Utf8.decode ⟨s.toArray⟩ pos).2)) (x' := .stringIter sb (pos + (Utf8.decode sb pos).2)) (blkObj_eq hb) h1 ⟨sb,hs,by rw [hdec]⟩
   refine ⟨_, .tuple #[.bool true, .int .i64 pos, .int .i32 (Utf8.decode sb pos).1], ?_,L,_,rfl,rfl,by rw [setAt_eq];exact g1,g2,g3,by rw [g4];exact Nat.le_refl _,by rw [setAt_eq];simp, ?_⟩
   ·simp [Instr.next,run_getObj h2 rfl,Result.andThen,hsz,hlt,run_setObj h2 rfl,goInt]
   ·rw [hdec]
    refine .tup _ _ rfl fun i y hy => ?_
    match i with
    | 0=>simp at hy;subst hy;exact .bool _
    | 1=>simp at hy;subst hy;exact .int _ _
    | 2=>simp at hy;subst hy;exact .int _ _
    | i + 3=>simp at hy
  ·rename_i hlt
   have hlt:¬ pos < s.length:=by simpa using hlt
   cases h
   refine ⟨w, .tuple #[.bool false], ?_,L,_,rfl,rfl,hI,Ext.refl _ _ _,fun s=>KeepLoc.refl s L w,Nat.le_refl _,Nat.le_refl _, ?_⟩
   ·simp [Instr.next,run_getObj h2 rfl,Result.andThen,hsz,hlt]
   ·refine .tup _ _ rfl fun i y hy => ?_
    match i with
    | 0=>simp at hy;subst hy;exact .bool _
    | i + 1=>simp at hy
end
section
variable {P:Program} {C:Cfg}
theorem same_key {a b:ByteArray}:(a==b)=(a.data.toList==b.data.toList):=by
 rw [Bool.eq_iff_iff,MapKept.bytes_beq,beq_iff_eq]
 constructor
 ·rintro rfl;rfl
 ·intro h
  cases a;cases b
  congr 1
  exact Array.toList_inj.1 h
theorem zeroV_ok (hT:TysOK P C) {t:TypeId} {ti:TI} (ht:C.ty t=some ti) {z:AV} (hz:valOf ti ti.zero=some z) (n:Nat) (L:Lay) (w:World):∃ zv,(zeroValue t).run P w = .ok zv w∧VR n L w z zv:=by
 obtain ⟨i,d,zv,hinfo,hd,hsz,_,hk,hzi,hzs,hzl,hzo,_,_,hag⟩:=(hT _ _ ht).ex
 refine ⟨zv,run_zeroValue hinfo hzi w, ?_⟩
 have hz0:=zero_ok n L w hzs hzo
 rw [← hk] at hag
 unfold valOf at hz
 cases ha:ti.k.agg with
 | false =>
  rw [ha] at hag
  have h1:=part_one ha hz
  have hc:zv.cells = #[zv]:=by cases zv <;> first | rfl | cases hag
  have:=hz0.vr 0 z h1
  rw [hc] at this
  exact this
 | true =>
  rw [ha] at hag
  obtain ⟨rfl,_⟩:=part_agg ha hz
  cases zv with
  | agg cs =>
   have hl:ti.zero.length=ti.size:=by rw [← hz0.len,hzl]
   have e:(ti.zero.drop 0).take ti.size=ti.zero:=by rw [List.drop_zero,List.take_of_length_le (by omega)]
   rw [e]
   exact .agg _ _ hz0.len (fun i x hx=>hz0.one i x hx) (fun i x hx=>hz0.vr i x hx)
  | _=>cases hag
def EntR (n:Nat) (L:Lay) (w:World) (es:List (List UInt8 × AV)) (ra:List MapEntry):Prop:=ra.length=es.length∧∀ (i:Nat) (k:List UInt8) (v:AV),es[i]?=some (k,v)→∃ (e:MapEntry) (kb:ByteArray),ra[i]?=some e∧e.key = .string kb∧kb.data.toList=k∧v.noTup=true∧VR n L w v e.val
theorem find_map {n:Nat} {L:Lay} {w:World} {kb:ByteArray} {k:List UInt8} (hk:kb.data.toList=k):∀ (es:List (List UInt8 × AV)) (ra:List MapEntry) (i:Nat),EntR n L w es ra →
  (getM k es=none∧Instr.findNow .string (.string kb) ra i=some none) ∨
  ∃ j v e,getM k es=some v∧Instr.findNow .string (.string kb) ra i=some (some (i + j,e.val))∧es[j]?=some (k,v)∧ra[j]?=some e∧VR n L w v e.val∧e.key = .string kb
 | [],ra,i,h=>by
  have:ra=[]:=List.eq_nil_of_length_eq_zero h.1
  subst this
  exact .inl ⟨rfl,rfl⟩
 | (j,v)::es,[],i,h=>by have:=h.1;simp at this
 | (j,v)::es,e::ra,i,h=>by
  obtain ⟨e',jb,h1,h2,h3,_,h4⟩:=h.2 0 j v rfl
  simp at h1;subst h1
  have ht:EntR n L w es ra:=⟨by have:=h.1;simpa using this,fun i k v hi=>by simpa using h.2 (i + 1) k v (by simpa using hi)⟩
  have hs:Instr.sameNow .string (.string kb) e.key=some (j==k):=by
   rw [h2]
   show some (kb==jb)=_
   rw [same_key,hk,h3]
   congr 1
   rw [Bool.eq_iff_iff,beq_iff_eq,beq_iff_eq]
   exact eq_comm
  cases hjk:(j==k) with
  | true =>
   have hjk':j=k:=by simpa using hjk
   refine .inr ⟨0,v,e,by simp [getM,hjk],by simp [Instr.findNow,hs,hjk],by simp [hjk'],rfl,h4, ?_⟩
   rw [h2]
   congr 1
   have:jb.data.toList=kb.data.toList:=by rw [h3,hk,hjk']
   cases jb;cases kb
   congr 1
   exact Array.toList_inj.1 this
  | false =>
   rcases find_map hk es ra (i + 1) ht with ⟨g1,g2⟩ | ⟨q,u,e2,g1,g2,g3,g4,g5,g6⟩
   ·exact .inl ⟨by simp [getM,hjk,g1],by simp [Instr.findNow,hs,hjk,g2]⟩
   ·exact .inr ⟨q + 1,u,e2,by simp [getM,hjk,g1],by simp [Instr.findNow,hs,hjk,g2];omega,by simpa using g3,by simpa using g4,g5,g6⟩
theorem lookupE_ok {B:Nat} {w0 w:World} {L:Lay} {st:St} (hT:TysOK P C) (hI:Inv C.glob B w0 L w st.hp) {t:TypeId} {m k:AV} {vm vk:Value} {ok:Bool} {r:Res} (h:lookupE C st t m k ok=some r) (hm:VR st.hp.length L w m vm) (hk:VR st.hp.length L w k vk) :
  ∃ rv,(Instr.lookup t vm vk ok).run P w = .ok rv w∧Comes C B w0 L w st r w rv:=by
 unfold lookupE at h
 split at h
 case h_2=>cases h
 rename_i ti b s hti
 obtain ⟨kt,et,d1,d2,d3⟩:=ty_map hT hti
 split at h
 case h_2=>cases h
 rename_i es hb
 obtain ⟨rr,x,l1,l2,ra,c,⟨rfl,_⟩,l3,l4⟩:=obj_of hI hb
 cases hm with
 | mpr _ r' hbl hr =>
  have:=hr _ l1
  subst this
  cases hk with
  | str _ kb hs =>
   have hkey:MapKept.IsKey .string (.string kb):=trivial
   have hE:EntR st.hp.length L w es ra.toList:=⟨by simpa using l3,fun i k v hi=>by simpa using l4 i k v hi⟩
   have com:∀ {y:AV} {rv:Value},VR st.hp.length L w y rv→Comes C B w0 L w st ⟨.v y,st.tmps,st.hp, .hw⟩ w rv:=fun {y rv} hy=>⟨L,y,rfl,rfl,hI,Ext.refl _ _ _,fun s=>KeepLoc.refl s L w,Nat.le_refl _,Nat.le_refl _,hy⟩
   have two:∀ {y:AV} {rv:Value} (q:Bool),VR st.hp.length L w y rv→VR st.hp.length L w (bif ok then .tup [y, .bool q] else y) (if ok then .tuple #[rv, .bool q] else rv):=fun {y rv} q hy=>by
    cases ok
    ·exact hy
    ·refine .tup _ _ rfl fun i z hz => ?_
     match i with
     | 0=>simp at hz;subst hz;exact hy
     | 1=>simp at hz;subst hz;exact .bool _
     | i + 2=>simp at hz
   rcases find_map hs es ra.toList 0 hE with ⟨g1,g2⟩ | ⟨j,v,e,g1,g2,g3,g4,g5,g6⟩
   ·rw [g1] at h
    simp only [Option.map_eq_some_iff] at h
    obtain ⟨z,hz,rfl⟩:=h
    obtain ⟨zv,z1,z2⟩:=zeroV_ok hT d3 hz st.hp.length L w
    refine ⟨_, ?_,com (two false z2)⟩
    simp [Instr.lookup,run_underlying d1,MapKept.run_getObj_map l2,MapKept.run_checkKey d2 hkey,MapKept.run_findKey d2 g2,z1,Result.andThen]
   ·rw [g1] at h
    cases h
    refine ⟨_, ?_,com (two true g5)⟩
    simp [Instr.lookup,run_underlying d1,MapKept.run_getObj_map l2,MapKept.run_checkKey d2 hkey,MapKept.run_findKey d2 g2,Result.andThen]
theorem put_none {k:List UInt8} {x:AV}:∀ {es:List (List UInt8 × AV)},getM k es=none→putM k x es=es++[(k,x)]
 | [],_=>rfl
 | (j,v)::es,h=>by
  unfold getM at h
  cases hjk:(j==k) with
  | true=>rw [hjk] at h;cases h
  | false =>
   rw [hjk,cond_false rfl] at h
   show (bif j==k then _ else _)=_
   rw [hjk,cond_false rfl,put_none h]
   rfl
theorem put_at {k:List UInt8} {x:AV} {n:Nat} {L:Lay} {w:World} {kb:ByteArray} (hk:kb.data.toList=k):∀ (es:List (List UInt8 × AV)) (ra:List MapEntry) (i m:Nat) (u:Value),EntR n L w es ra→Instr.findNow .string (.string kb) ra i=some (some (i + m,u))→putM k x es=es.set m (k,x)
 | [],ra,i,m,u,h,hf=>by
  have:ra=[]:=List.eq_nil_of_length_eq_zero h.1
  subst this
  cases hf
 | (j,v)::es,[],i,m,u,h,hf=>by have:=h.1;simp at this
 | (j,v)::es,e::ra,i,m,u,h,hf=>by
  obtain ⟨e',jb,h1,h2,h3,_,h4⟩:=h.2 0 j v rfl
  simp at h1;subst h1
  have ht:EntR n L w es ra:=⟨by have:=h.1;simpa using this,fun i k v hi=>by simpa using h.2 (i + 1) k v (by simpa using hi)⟩
  have hs:Instr.sameNow .string (.string kb) e.key=some (j==k):=by
   rw [h2]
   show some (kb==jb)=_
   rw [same_key,hk,h3]
   congr 1
   rw [Bool.eq_iff_iff,beq_iff_eq,beq_iff_eq]
   exact eq_comm
  cases hjk:(j==k) with
  | true =>
   simp only [Instr.findNow,hs,hjk] at hf
   have hm:m=0:=by injection hf with hf;injection hf with hf;injection hf with hf;omega
   subst hm
   show (bif j==k then _ else _)=_
   rw [hjk,cond_true rfl]
   have:j=k:=by simpa using hjk
   rw [this];rfl
  | false =>
   simp only [Instr.findNow,hs,hjk] at hf
   show (bif j==k then _ else _)=_
   rw [hjk,cond_false rfl]
   have hle:i + 1≤i + m:=by
    rcases find_map hk es ra (i + 1) ht with ⟨g1,g2⟩ | ⟨q,u',e2,g1,g2,_⟩
    ·rw [g2] at hf;cases hf
    ·rw [g2] at hf;injection hf with hf;injection hf with hf;injection hf with hf;omega
   obtain ⟨m',rfl⟩:∃ m',m=m' + 1:=⟨m - 1,by omega⟩
   rw [put_at hk es ra (i + 1) m' u ht (by rw [hf];congr 3;omega)]
   rfl
theorem mapUpdateE_ok {B fl:Nat} {w0 w:World} {L:Lay} {st:St} (hT:TysOK P C) (hI:Inv C.glob B w0 L w st.hp) {t:TypeId} {m k x:AV} {vm vk vx:Value} {r:Res} (h:mapUpdateE C fl st t m k x=some r) (hm:VR st.hp.length L w m vm) (hk:VR st.hp.length L w k vk) (hx:VR st.hp.length L w x vx) :
  ∃ w',(Instr.mapUpdate t vm vk vx).run P w = .ok () w'∧r.val = .sk∧r.tmps=st.tmps∧Inv C.glob B w0 L w' r.hp∧Ext st.hp.length L w L w'∧(∀ s,KeepLoc s L w L w')∧w.heap.size≤w'.heap.size∧st.hp.length≤r.hp.length:=by
 unfold mapUpdateE at h
 split at h
 case h_2=>cases h
 rename_i ti b s hti
 obtain ⟨kt,et,d1,d2,d3⟩:=ty_map hT hti
 split at h
 case h_2=>cases h
 rename_i es hb
 simp only [cond_eq_ite,Bool.and_eq_true] at h
 split at h
 case isFalse=>cases h
 rename_i hc
 cases h
 obtain ⟨rr,x',l1,l2,ra,c,⟨rfl,hst⟩,l3,l4⟩:=obj_of hI hb
 cases hm with
 | mpr _ r' hbl hr =>
  have:=hr _ l1
  subst this
  cases hk with
  | str _ kb hs =>
   have hkey:MapKept.IsKey .string (.string kb):=trivial
   have hE:EntR st.hp.length L w es ra.toList:=⟨by simpa using l3,fun i k v hi=>by simpa using l4 i k v hi⟩
   have fin:∀ (ra':Array MapEntry) (c':Nat),(Instr.mapUpdate t (.map (some r')) (.string kb) vx).run P w = .ok () (putO w r' (.map ra' c'))→EntR st.hp.length L w (putM s x es) ra'.toList→MapKept.Stamped ra' c'→∃ w',(Instr.mapUpdate t (.map (some r')) (.string kb) vx).run P w = .ok () w'∧(TV.sk=TV.sk)∧st.tmps=st.tmps∧Inv C.glob B w0 L w' (setAt st.hp b (.obj (.mp (putM s x es))))∧Ext st.hp.length L w L w'∧(∀ s,KeepLoc s L w L w')∧w.heap.size≤w'.heap.size∧st.hp.length≤(setAt st.hp b (.obj (.mp (putM s x es)))).length:=fun ra' c' h1 h2 h3=>by
    obtain ⟨g1,g2,g3,g4⟩:=hI.setObj (o' := .mp (putM s x es)) (x' := .map ra' c') (blkObj_eq hb) l1 ⟨ra',c',⟨rfl,h3⟩,by simpa using h2.1,fun i k v hi=>by simpa using h2.2 i k v hi⟩
    exact ⟨_,h1,rfl,rfl,by rw [setAt_eq];exact g1,g2,g3,Nat.le_of_eq g4.symm,by rw [setAt_eq];simp⟩
   rcases find_map hs es ra.toList 0 hE with ⟨g1,g2⟩ | ⟨j,v,e,g1,g2,g3,g4,g5,g6⟩
   ·refine fin (ra.push ⟨.string kb,vx,c⟩) (c + 1) ?_ ?_ (MapKept.stamped_push hst fun e he => ?_)
    ·simp [Instr.mapUpdate,run_underlying d1,MapKept.run_getObj_map l2,MapKept.run_checkKey d2 hkey,MapKept.run_findKey d2 g2,MapKept.run_setObj_map _ l2,Result.andThen,putO]
    ·rw [put_none g1]
     refine ⟨by simp [l3],fun i k v hi => ?_⟩
     rcases Nat.lt_or_ge i es.length with hi' | hi'
     ·rw [List.getElem?_append_left hi'] at hi
      obtain ⟨e,kb',q1,q2⟩:=hE.2 i k v hi
      have hlt:=(List.getElem?_eq_some_iff.1 q1).1
      exact ⟨e,kb',by rw [Array.toList_push,List.getElem?_append_left hlt];exact q1,q2⟩
     ·rw [List.getElem?_append_right hi'] at hi
      have hl:=(List.getElem?_eq_some_iff.1 hi).1
      have hm:=List.mem_of_getElem? hi
      simp at hm hl
      obtain ⟨rfl,rfl⟩:=hm
      have hi2:i=es.length:=by omega
      subst hi2
      refine ⟨⟨.string kb,vx,c⟩,kb, ?_,rfl,hs,hc.2,hx⟩
      rw [Array.toList_push,List.getElem?_append_right (by simp [l3])]
      simp [l3]
    ·have hall:∀ e ∈ ra.toList,MapKept.IsKey .string e.key:=fun e he=>by
      obtain ⟨i,hi⟩:=List.getElem?_of_mem he
      have hil:=(List.getElem?_eq_some_iff.1 hi).1
      rw [hE.1] at hil
      obtain ⟨e',kb',q1,q2,_⟩:=hE.2 i es[i].1 es[i].2 (List.getElem?_eq_getElem hil)
      rw [hi] at q1;cases q1
      rw [q2];trivial
     rcases MapKept.findNow_spec hkey ra.toList 0 hall with ⟨_,q⟩ | ⟨j,e',q,_⟩
     ·exact q e he
     ·rw [g2] at q;cases q
   ·have hp:=put_at (x:=x) hs es ra.toList 0 j e.val hE g2
    rw [Nat.zero_add] at g2
    have hj:ra[j]?=some e:=by simpa using g4
    refine fin (ra.modify j fun e=>{ e with key := .string kb,val:=vx }) c ?_ ?_ (MapKept.stamped_modify hst _ _ (fun _ _=>rfl) fun e' _ he'=>by rw [hj] at he';cases he';exact g6.symm)
    ·simp [Instr.mapUpdate,run_underlying d1,MapKept.run_getObj_map l2,MapKept.run_checkKey d2 hkey,MapKept.run_findKey d2 g2,hj,g6,MapKept.run_keyThatStays hkey,MapKept.run_setObj_map _ l2,Result.andThen,putO]
    ·rw [hp]
     refine ⟨by simp [l3],fun i k v hi => ?_⟩
     rw [Array.getElem?_toList,Array.getElem?_modify]
     by_cases e1:j=i
     ·subst e1
      have hjl:=(List.getElem?_eq_some_iff.1 g3).1
      rw [List.getElem?_set_self hjl] at hi
      cases hi
      rw [if_pos rfl,hj]
      exact ⟨_,kb,rfl,rfl,hs,hc.2,hx⟩
     ·rw [List.getElem?_set_ne e1] at hi
      rw [if_neg e1]
      simpa using hE.2 i k v hi
end
section
variable {P:Program} {C:Cfg}
def FCalls (P:Program) (f:FuncId) (args:Array Value) (w:World) (R:Ending→World→Prop):Prop :=
 match (callFunc f args).run P w with
 | .ok (.value v) w'=>R (.returned v) w'
 | .ok (.enter g ats) w'=>Calls P g ats w' R
 | _=>False
def CallPost (C:Cfg) (B:Nat) (w0:World) (L:Lay) (w:World) (n:Nat) (v:AV) (hp':List Blk) (e:Ending) (w':World):Prop :=
 ∃ rv L',e = .returned rv∧Inv C.glob B w0 L' w' hp'∧Ext n L w L' w'∧KeepLoc w.heap.size L w L' w'∧w.heap.size≤w'.heap.size∧n≤hp'.length∧VR hp'.length L' w' v rv
def CallOK (P:Program) (C:Cfg) (call:CallF):Prop :=
 ∀ f args hp v hp',call f args hp=some (v,hp')→∀ B w0 L w (rargs:List Value),Inv C.glob B w0 L w hp→CR hp.length L w args rargs →
  FCalls P f rargs.toArray w (CallPost C B w0 L w hp.length v hp')
def Post (C:Cfg) (B:Nat) (w0:World) (base:Nat) (L:Lay) (w:World) (n:Nat) (hp':List Blk) (ts':List TV) (ds:List Deferred) (a':Act) (w':World):Prop :=
 ∃ L',Inv C.glob B w0 L' w' hp'∧Ext n L w L' w'∧KeepLoc base L w L' w'∧w.heap.size≤w'.heap.size∧n≤hp'.length∧FR hp'.length L' w' base ts' a'.tmps∧a'.defers=ds
section
variable {B base:Nat} {w0 w:World} {L:Lay} {st:St} {rt:Array Value} {ds:List Deferred} {o:Oper} {r:Res} {ts':List TV} {K:Act→World→Prop} {Q:Exit→Act→World→Prop}
theorem put_act (dst:Option Tmp) (v:Value):((({ tmps:=rt,defers:=ds }:Act).put dst v)).defers=ds:=by cases dst <;> rfl
theorem fin_value (hput:put r.tmps o.dst r.val=some ts') (hK:∀ a' w',Post C B w0 base L w st.hp.length r.hp ts' ds a' w'→K a' w') {rv:Value} {w':World}
  (hrun:(execOp ({ tmps:=rt,defers:=ds }:Act).eval o).run P w = .ok (.value rv) w') {L':Lay} (h1:Inv C.glob B w0 L' w' r.hp) (h2:Ext st.hp.length L w L' w') (h3:KeepLoc base L w L' w') (h4:w.heap.size≤w'.heap.size) (h5:st.hp.length≤r.hp.length)
  (h6:FR r.hp.length L' w' base r.tmps rt) (h7:∀ d,o.dst=some d→DstR r.hp.length L' w' base r.tmps rt d r.val rv):o.wp P { tmps:=rt,defers:=ds } w K Q:=by
 unfold Oper.wp
 rw [hrun]
 exact hK _ _ ⟨L',h1,h2,h3,h4,h5,put_ok hput h6 h7,put_act _ _⟩
theorem fin_pure (hI:Inv C.glob B w0 L w st.hp) (hF:FR st.hp.length L w base st.tmps rt) (hput:put r.tmps o.dst r.val=some ts') (hK:∀ a' w',Post C B w0 base L w st.hp.length r.hp ts' ds a' w'→K a' w') {rv:Value}
  (hrun:(execOp ({ tmps:=rt,defers:=ds }:Act).eval o).run P w = .ok (.value rv) w) (ht:r.tmps=st.tmps) (hh:r.hp=st.hp) (hor:OR st.hp.length L w st.tmps rt r.val rv) (hnb:∀ cs,r.val ≠ .bx cs) :
  o.wp P { tmps:=rt,defers:=ds } w K Q:=by
 refine fin_value hput hK hrun (L':=L) (by rw [hh];exact hI) (Ext.refl _ _ _) (KeepLoc.refl _ _ _) (Nat.le_refl _) (by rw [hh];exact Nat.le_refl _) (by rw [hh,ht];exact hF) fun d _ => ?_
 rw [hh,ht]
 cases hv:r.val with
 | bx cs=>exact absurd hv (hnb cs)
 | junk=>exact trivial
 | sk=>rw [hv] at hor;exact hor
 | v x=>rw [hv] at hor;exact hor
 | lp t off=>rw [hv] at hor;exact hor
theorem fin_comes (hF:FR st.hp.length L w base st.tmps rt) (hput:put r.tmps o.dst r.val=some ts') (hK:∀ a' w',Post C B w0 base L w st.hp.length r.hp ts' ds a' w'→K a' w') {rv:Value} {w':World}
  (hrun:(execOp ({ tmps:=rt,defers:=ds }:Act).eval o).run P w = .ok (.value rv) w') (hc:Comes C B w0 L w st r w' rv):o.wp P { tmps:=rt,defers:=ds } w K Q:=by
 obtain ⟨L',x,h1,h2,h3,h4,h5,h6,h7,h8⟩:=hc
 refine fin_value hput hK hrun h3 h4 (h5 _) h6 h7 (by rw [h2];exact hF.mono h7 h4 (h5 _) h6) fun d _ => ?_
 rw [h1];exact h8
end
theorem mapO_opv {B base:Nat} {w0 w:World} {L:Lay} {hp:List Blk} {ts:List TV} {rt:Array Value} {ds:List Deferred} (hI:Inv C.glob B w0 L w hp) (hF:FR hp.length L w base ts rt) (xs:Array Operand) {r:List AV}
  (h:mapO (opv C ts) xs.toList=some r):CR hp.length L w r (xs.map ({ tmps:=rt,defers:=ds }:Act).eval).toList:=by
 obtain ⟨hl,hi⟩:=mapO_eq _ _ _ h
 refine ⟨by simp [hl],fun i x v hx hv => ?_⟩
 have hlt:i < xs.toList.length:=by rw [← hl];exact (List.getElem?_eq_some_iff.1 hx).1
 obtain ⟨y,hy,hr⟩:=hi i _ (List.getElem?_eq_getElem hlt)
 have:x=y:=by rw [hx] at hr;exact Option.some.inj hr
 subst this
 have:=opv_ok (ds:=ds) hI hF hy
 have hv':v=({ tmps:=rt,defers:=ds }:Act).eval xs.toList[i]:=by
  simp at hv
  obtain ⟨z,hz,rfl⟩:=hv
  have:xs.toList[i]=z:=by simp at hlt;simp [hlt] at hz;simpa using hz
  rw [this]
 rw [hv'];exact this
end
end Go.Proofs.YtgbheglnmdnkoaaGreatDoor.E
