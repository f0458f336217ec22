/- For every input the law returns true; its conditions are the given card's alone. -/
import Derived.Test.YtbbndbckopljfaaGreatDoorEag
import Derived.Test.YtbbndbckopljfaaGreatDoorCards
import Derived.Test.YtbbndbckopljfaaGreatDoorTie
import Derived.Carry
import Derived.ProofKit
import Derived.WalkKit
import Derived.OpenShut
import Derived.ChangeOld
import Derived.SizedLaws
import Derived.LaidMore
import Derived.Stop.Joined
import Derived.SevenTiedAt
import Derived.Stop.LaidErr
import Derived.MakeChecks
set_option linter.unusedSimpArgs false
set_option linter.unusedVariables false
namespace Go.Proofs.YtbbndbckopljfaaGreatDoor.E.SW.tenantTableRow
open Go Go.Proofs Go.Proofs.YtbbndbckopljfaaGreatDoor
open Go.ChangeShapes Go.WideShapes Go.ChangeAt Go.RowKit Go.Lib
open Go.ChangeMaps (open_string shut_string)
theorem own:ownKnob Tryz.prog.godebug=none:=by kernel_rfl
theorem laidOut:laidOutB Tryz.prog=true:=by kernel_rfl
theorem strB {a:ByteArray} (h:a.size≤maxLen):a.data.toList.length≤9223372036854775807:=by
 have:maxLen=9223372036854775807:=by decide
 rw [this] at h
 simpa using h
theorem cT:Tryz.prog.cellsOf 273=1:=by kernel_rfl
theorem cS:Tryz.prog.cellsOf 9=1:=by kernel_rfl
theorem star : "*" ++ "errors.errorString" = "*errors.errorString" := by decide
theorem rowT (u : TypeId) (h : Tryz.prog.typeName? 3 u = some "*errors.errorString") : u = 271 :=
 typeName_ptr_named (nm := "errors.errorString") (by rw [star]; kernel_rfl) (by kernel_rfl) (by decide) u (by rw [star]; exact h)
theorem globs {W:World} (hL:laidMetH Tryz.prog Rows.tenantTableRow.laid W):∀ g v,(cfg 0).glob g=some v→GlobOK W g v:=by
 intro g v h
 have h1:laidMet Tryz.prog Rows.tenantTableRow.laid W:=by
  have:=hL
  rw [Go.MakeChecks.laidMetH_plain _ _ _ (by kernel_rfl)] at this
  exact this
 have h:glob 0 g=some v:=h
 unfold glob at h
 cases hb0:Nat.beq g 3 with
 | true =>
  rw [hb0] at h
  obtain rfl:=Nat.eq_of_beq_eq_true hb0
  cases h
  exact tab_glob (name := "internal/strconv.uint64pow10") (by kernel_rfl) (tabIs_of_head (g := 3) (t := 275) (e := 169) (n := 20) (by kernel_rfl) (by kernel_rfl) Tryz.underlying275 Tryz.underlying169 (by kernel_rfl) (by kernel_rfl) (h1.tail.tail))
 | false =>
  rw [hb0] at h
  cases hb1:Nat.beq g 1 with
  | true =>
   rw [hb1] at h
   obtain rfl:=Nat.eq_of_beq_eq_true hb1
   cases h
   obtain ⟨a1, s1, hv1, hc1, hs1, hz1⟩ := laid_sentinel (h1.tail.tail.tail.tail) (show Tryz.prog.globalNamed "strconv.ErrSyntax" = some 1 by kernel_rfl) (show (Tryz.prog.globals[1]?).map (·.type) = some 248 by kernel_rfl) Tryz.underlying248 rowT Tryz.underlying271 Tryz.underlying273 rfl rfl Tryz.underlying9 cT cS
   exact err_glob (show Tryz.prog.globalNamed "strconv.ErrSyntax" = some 1 by kernel_rfl) hv1 hc1 hs1
  | false =>
   rw [hb1] at h
   cases hb2:Nat.beq g 2 with
   | true =>
    rw [hb2] at h
    obtain rfl:=Nat.eq_of_beq_eq_true hb2
    cases h
    obtain ⟨a1, s1, hv1, hc1, hs1, hz1⟩ := laid_sentinel (h1.tail.tail.tail) (show Tryz.prog.globalNamed "strconv.ErrRange" = some 2 by kernel_rfl) (show (Tryz.prog.globals[2]?).map (·.type) = some 248 by kernel_rfl) Tryz.underlying248 rowT Tryz.underlying271 Tryz.underlying273 rfl rfl Tryz.underlying9 cT cS
    exact err_glob (show Tryz.prog.globalNamed "strconv.ErrRange" = some 2 by kernel_rfl) hv1 hc1 hs1
   | false =>
    rw [hb2] at h
    cases h
theorem walkL (v0:Value) (x0:AV) (a1:ByteArray) (W:World) (hL:laidMetH Tryz.prog Rows.tenantTableRow.laid W) (s0:Sh (cfg 0) 8 22 x0) (y0:VR 0 (lay0 W) W x0 v0) (w1:a1.size≤maxLen) :
  Calls Tryz.prog 3 #[v0, .string a1] W fun e w'=>e = .returned (.bool true)∧Below W.heap.size W w' :=
 entry_trueI (tab 0) (rargs:=[v0, .string a1]) rfl (globs hL) (law_table x0 a1.data.toList s0 (strB w1)) (.cons y0 (.cons (.str _ _ rfl) .nil))
theorem door_met (os:Os) (args:Array Value):laidMetH Tryz.prog Rows.tenantTableRow.laid ((World.doorLaid Tryz.prog 1000 os).forCall (fun _ _=>0) ⟨#[],args,[]⟩).memory :=
 laidMetH_of_parts3 (fuel:=8) (laidMet_of_run' 8 (by kernel_rfl) (by kernel_rfl)) (by kernel_rfl) (by kernel_rfl)
set_option maxRecDepth 100000 in
theorem lifted (os:Os) (started:os.Started) (H:Type) (enc:TypeId × Value→H) :
  ReturnsInHanded {} Tryz.checked os 3 .any (fun w args=>(Rows.tenantTableSpec.pre enc Tryz.prog Tryz.f3 [] false w args∧laidMetH Tryz.prog Rows.tenantTableRow.laid w)∧sizedMet enc Tryz.prog Tryz.f3 (OpenSpec.ofChange Rows.tenantTableSpec) false w args)
   (Rows.tenantTableSpec.post enc Tryz.prog Tryz.f3 false true false false):=by
 refine returnsInHanded_of_change_and (C:=Tryz.checked) (X:=fun w _=>laidMetH Tryz.prog Rows.tenantTableRow.laid w) (fun _ _ _ hh h=>h.of_heap hh) own started (by kernel_rfl) Tryz.func3
  (ChangeSpec.witness_shaped (enc:=enc) (C:=Tryz.checked) (os:=os) (X:=fun w _=>laidMetH Tryz.prog Rows.tenantTableRow.laid w) false (World.doorLaid Tryz.prog 1000 os) #[.slice none 0 0, .string ⟨#[]⟩] 8 rfl (World.shaped_of_RefB (by kernel_rfl) (by kernel_rfl)) (by kernel_rfl) (by kernel_rfl) (by kernel_rfl) (door_met os _)) ?_
 intro W base args ds gs before hval0 hW _ _ hL _
 have hval:∀ (j:Nat) t v,Tryz.f3.params[j]?=some t→args[j]?=some v→Value.okWide Tryz.prog W .any base t v:=hval0
 have hW':=hW
 obtain ⟨p,q,hA0,hV,rfl,hfz,hnd⟩:=hW
 have hA:DataW.TrodAll enc Tryz.prog W 0 (fun _=>true) true Tryz.f3.params.toList args.toList ds p:=hA0
 rw [Tryz.params3] at hA hval
 obtain ⟨v0,vs0,d0,ds0,p0,q0,hargs,rfl,rfl,h0,r0⟩:=trodAll_cons hA
 obtain ⟨v1,vs1,d1,ds1,p1,q1,rfl,rfl,rfl,h1,r1⟩:=trodAll_cons r0
 obtain ⟨rfl,rfl,rfl⟩:=trodAll_nil r1
 obtain rfl:args = #[v0,v1]:=by cases args;simp_all
 obtain ⟨rfl,rfl⟩:=trodVars_none hV
 have k0:=h0
 have lt0:∀ x ∈ p0,x.block < W.heap.size:=by obtain ⟨m,hm⟩:=k0;exact DataW.trod_lt m _ _ _ hm
 obtain ⟨x0,s0,y0⟩:=open_arg (tab 0).ty 8 (by kernel_rfl) (hval 0 22 v0 rfl rfl) h0
 obtain ⟨a1,rfl,rfl,rfl,w1⟩:=open_string Tryz.underlying9 (hval 1 9 v1 rfl rfl) h1
 refine (walkL v0 x0 a1 W hL s0 y0 w1).mono fun e W' ⟨he,bel⟩ => ?_
 subst he
 exact ⟨_,rfl,_,_,_,[],_,[],hW',trodAll_mk1 (shut_bool Tryz.underlying4 _),(trodAll_cons_mk (Below.trod laidOut (by kernel_rfl) (of_decide_eq_true (by kernel_rfl)) k0 bel lt0) (trodAll_cons_mk (shut_string Tryz.underlying9 w1) trodAll_mk0)),rfl,bel.frame _,fun h=>by cases h⟩
theorem over:Rows.tenantTableRow.holds Tryz.pinned (OpenSpec.ofChange Rows.tenantTableSpec) :=
 OpenClaim.holds_of_wide 3 Tryz.f3 rfl rfl rfl rfl rfl rfl rfl ⟨rfl,rfl,rfl,rfl,rfl⟩ rfl rfl rfl rfl rfl (by kernel_rfl) Tryz.func3 (by kernel_rfl)
  (of_decide_eq_true (by kernel_rfl)) (by unfold Func.isWrapper;first | (rw [if_pos (by decide +kernel)];kernel_rfl) | (rw [if_neg (by decide +kernel)];exact ⟨rfl,rfl⟩))
  (fun os started H enc _=>lifted os started H enc)
theorem proved:Rows.TenantTableCardSaid :=
 Claim7.holds_tied_plain_at .later [] [.data, .data, .data, .sentinel, .sentinel] true (true, "0783f981522191f6a5ae93193736a6c372ac75d3b189046385a434063f4253a8") true
  over (fun _ h=>by cases h) (by kernel_rfl) (fun _ h=>by cases h) tenantTable_row_tie rfl ⟨rfl,rfl⟩ (by kernel_rfl) rfl
  (fun f fn hf hfn=>by
   obtain rfl : f = 3 := Option.some.inj ((show Tryz.prog.funcNamed "archivist/archivistlaw18.TenantTable" = some 3 by kernel_rfl).symm.trans hf) |>.symm
   obtain rfl:fn=Tryz.f3:=(Option.some.inj (Tryz.func3.symm.trans hfn)).symm
   exact ⟨by kernel_rfl,fun j t ht=>by
    rw [Tryz.params3] at ht
    have hm:t ∈ [22,9]:=by simpa using Array.mem_of_getElem? ht
    have hall:([22,9].all fun u => !Tryz.prog.wantsStandIn u)=true:=by kernel_rfl
    exact (show Tryz.prog.wantsStandIn t=false by simpa using List.all_eq_true.1 hall t hm)⟩)
  (by kernel_rfl)
#print axioms proved
end Go.Proofs.YtbbndbckopljfaaGreatDoor.E.SW.tenantTableRow
