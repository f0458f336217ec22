/- Steps of the seat's proofs: an evaluator of the program's code, its soundness, and what the functions come to. -/
import Derived.Test.YtgbheglnmdnkoaaGreatDoorEal
import Derived.Test.YtgbheglnmdnkoaaGreatDoorCards
import Derived.Test.YtgbheglnmdnkoaaGreatDoorTie
import Derived.Carry
import Derived.ProofKit
import Derived.WalkKit
import Derived.OpenShut
import Derived.ChangeOld
import Derived.SizedLaws
import Derived.LaidMore
import Derived.Stop.Joined
import Derived.SevenTiedAt
import Derived.Stop.LaidErr
import Derived.MakeChecks
set_option linter.unusedSimpArgs false
set_option linter.unusedVariables false
namespace Go.Proofs.YtgbheglnmdnkoaaGreatDoor.E.SF.storeSplitRow
open Go Go.Proofs Go.Proofs.YtgbheglnmdnkoaaGreatDoor
open Go.ChangeShapes Go.WideShapes Go.ChangeAt Go.RowKit Go.Lib
open Go.ChangeMaps (open_string shut_string)
theorem own:ownKnob Tryz.prog.godebug=none:=by kernel_rfl
theorem laidOut:laidOutB Tryz.prog=true:=by kernel_rfl
theorem cT:Tryz.prog.cellsOf 419=1:=by kernel_rfl
theorem cS:Tryz.prog.cellsOf 9=1:=by kernel_rfl
theorem star : "*" ++ "errors.errorString" = "*errors.errorString" := by decide
theorem rowT (u : TypeId) (h : Tryz.prog.typeName? 3 u = some "*errors.errorString") : u = 417 :=
 typeName_ptr_named (nm := "errors.errorString") (by rw [star]; kernel_rfl) (by kernel_rfl) (by decide) u (by rw [star]; exact h)
theorem globs {W:World} (hL:laidMetH Tryz.prog Rows.storeSplitRow.laid W):∀ g v,(cfg 0).glob g=some v→GlobOK W g v:=by
 intro g v h
 have h1:laidMet Tryz.prog Rows.storeSplitRow.laid W:=by
  have:=hL
  rw [Go.MakeChecks.laidMetH_plain _ _ _ (by kernel_rfl)] at this
  exact this
 have h:glob 0 g=some v:=h
 unfold glob at h
 cases hb0:Nat.beq g 1 with
 | true =>
  rw [hb0] at h
  obtain rfl:=Nat.eq_of_beq_eq_true hb0
  cases h
  exact tab_glob (name := "internal/strconv.uint64pow10") (by kernel_rfl) (tabIs_of_head (g := 1) (t := 385) (e := 243) (n := 20) (by kernel_rfl) (by kernel_rfl) Tryz.underlying385 Tryz.underlying243 (by kernel_rfl) (by kernel_rfl) (h1.tail.tail))
 | false =>
  rw [hb0] at h
  cases hb1:Nat.beq g 4 with
  | true =>
   rw [hb1] at h
   obtain rfl:=Nat.eq_of_beq_eq_true hb1
   cases h
   obtain ⟨a1, s1, hv1, hc1, hs1, hz1⟩ := laid_sentinel (h1.tail.tail.tail.tail) (show Tryz.prog.globalNamed "strconv.ErrSyntax" = some 4 by kernel_rfl) (show (Tryz.prog.globals[4]?).map (·.type) = some 398 by kernel_rfl) Tryz.underlying398 rowT Tryz.underlying417 Tryz.underlying419 rfl rfl Tryz.underlying9 cT cS
   exact err_glob (show Tryz.prog.globalNamed "strconv.ErrSyntax" = some 4 by kernel_rfl) hv1 hc1 hs1
  | false =>
   rw [hb1] at h
   cases hb2:Nat.beq g 5 with
   | true =>
    rw [hb2] at h
    obtain rfl:=Nat.eq_of_beq_eq_true hb2
    cases h
    obtain ⟨a1, s1, hv1, hc1, hs1, hz1⟩ := laid_sentinel (h1.tail.tail.tail) (show Tryz.prog.globalNamed "strconv.ErrRange" = some 5 by kernel_rfl) (show (Tryz.prog.globals[5]?).map (·.type) = some 398 by kernel_rfl) Tryz.underlying398 rowT Tryz.underlying417 Tryz.underlying419 rfl rfl Tryz.underlying9 cT cS
    exact err_glob (show Tryz.prog.globalNamed "strconv.ErrRange" = some 5 by kernel_rfl) hv1 hc1 hs1
   | false =>
    rw [hb2] at h
    cases h
theorem walkL (v0:Value) (x0:AV) (a1:Bool) (a2:Int) (W:World) (hL:laidMetH Tryz.prog Rows.storeSplitRow.laid W) (s0:Sh (cfg 0) 8 51 x0) (y0:VR 0 (lay0 W) W x0 v0) (w2:(Lit.int .i8 a2).wf=true) :
  Calls Tryz.prog 7 #[v0, .bool a1, .int .i8 a2] W fun e w'=>e = .returned (.bool true)∧Below W.heap.size W w' :=
 entry_trueI (tab 0) (rargs:=[v0, .bool a1, .int .i8 a2]) rfl (globs hL) (law_split x0 a1 a2 s0 (rngI8 w2)) (.cons y0 (.cons (.bool _) (.cons (.int _ _) .nil)))
theorem door_met (os:Os) (args:Array Value):laidMetH Tryz.prog Rows.storeSplitRow.laid ((World.doorLaid Tryz.prog 1000 os).forCall (fun _ _=>0) ⟨#[],args,[]⟩).memory :=
 laidMetH_of_parts3 (fuel:=8) (laidMet_of_run' 8 (by kernel_rfl) (by kernel_rfl)) (by kernel_rfl) (by kernel_rfl)
set_option maxRecDepth 100000 in
theorem lifted (os:Os) (started:os.Started) (H:Type) (enc:TypeId × Value→H) :
  ReturnsInHanded {} Tryz.checked os 7 .any (fun w args=>(Rows.storeSplitSpec.pre enc Tryz.prog Tryz.f7 [] false w args∧laidMetH Tryz.prog Rows.storeSplitRow.laid w)∧sizedMet enc Tryz.prog Tryz.f7 (OpenSpec.ofChange Rows.storeSplitSpec) false w args)
   (Rows.storeSplitSpec.post enc Tryz.prog Tryz.f7 false true false false):=by
 refine returnsInHanded_of_change_and (C:=Tryz.checked) (X:=fun w _=>laidMetH Tryz.prog Rows.storeSplitRow.laid w) (fun _ _ _ hh h=>h.of_heap hh) own started (by kernel_rfl) Tryz.func7
  (ChangeSpec.witness_shaped (enc:=enc) (C:=Tryz.checked) (os:=os) (X:=fun w _=>laidMetH Tryz.prog Rows.storeSplitRow.laid w) false (World.doorLaid Tryz.prog 1000 os) #[.slice none 0 0, .bool false, .int .i8 0] 8 rfl (World.shaped_of_RefB (by kernel_rfl) (by kernel_rfl)) (by kernel_rfl) (by kernel_rfl) (by kernel_rfl) (door_met os _)) ?_
 intro W base args ds gs before hval0 hW _ _ hL _
 have hval:∀ (j:Nat) t v,Tryz.f7.params[j]?=some t→args[j]?=some v→Value.okWide Tryz.prog W .any base t v:=hval0
 have hW':=hW
 obtain ⟨p,q,hA0,hV,rfl,hfz,hnd⟩:=hW
 have hA:DataW.TrodAll enc Tryz.prog W 0 (fun _=>true) true Tryz.f7.params.toList args.toList ds p:=hA0
 rw [Tryz.params7] at hA hval
 obtain ⟨v0,vs0,d0,ds0,p0,q0,hargs,rfl,rfl,h0,r0⟩:=trodAll_cons hA
 obtain ⟨v1,vs1,d1,ds1,p1,q1,rfl,rfl,rfl,h1,r1⟩:=trodAll_cons r0
 obtain ⟨v2,vs2,d2,ds2,p2,q2,rfl,rfl,rfl,h2,r2⟩:=trodAll_cons r1
 obtain ⟨rfl,rfl,rfl⟩:=trodAll_nil r2
 obtain rfl:args = #[v0,v1,v2]:=by cases args;simp_all
 obtain ⟨rfl,rfl⟩:=trodVars_none hV
 have k0:=h0
 have lt0:∀ x ∈ p0,x.block < W.heap.size:=by obtain ⟨m,hm⟩:=k0;exact DataW.trod_lt m _ _ _ hm
 obtain ⟨x0,s0,y0⟩:=open_arg (tab 0).ty 8 (by kernel_rfl) (hval 0 51 v0 rfl rfl) h0
 obtain ⟨a1,rfl,rfl,rfl⟩:=open_bool Tryz.underlying4 (hval 1 4 v1 rfl rfl) h1
 obtain ⟨a2,rfl,rfl,rfl,w2⟩:=open_int Tryz.underlying77 (hval 2 77 v2 rfl rfl) h2
 refine (walkL v0 x0 a1 a2 W hL s0 y0 w2).mono fun e W' ⟨he,bel⟩ => ?_
 subst he
 exact ⟨_,rfl,_,_,_,[],_,[],hW',trodAll_mk1 (shut_bool Tryz.underlying4 _),(trodAll_cons_mk (Below.trod laidOut (by kernel_rfl) (of_decide_eq_true (by kernel_rfl)) k0 bel lt0) (trodAll_cons_mk (shut_bool Tryz.underlying4 _) (trodAll_cons_mk (shut_int Tryz.underlying77 w2) trodAll_mk0))),rfl,bel.frame _,fun h=>by cases h⟩
end Go.Proofs.YtgbheglnmdnkoaaGreatDoor.E.SF.storeSplitRow
