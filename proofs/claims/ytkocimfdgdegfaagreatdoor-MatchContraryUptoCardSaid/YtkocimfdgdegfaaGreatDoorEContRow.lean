/- Rows.MatchContraryUptoCardSaid: for every input of bulk at most 1048576 the law returns true; its conditions are the given card's alone. -/
import Derived.Test.YtkocimfdgdegfaaGreatDoorEContraryx
import Derived.Test.YtkocimfdgdegfaaGreatDoorCards
import Derived.Test.YtkocimfdgdegfaaGreatDoorTie
import Derived.ProofKit
import Derived.WalkKit
import Derived.OpenShut
import Derived.ChangeOld
import Derived.SizedLaws
import Derived.LaidMore
import Derived.Stop.Joined
import Derived.SevenTiedAt
import Derived.Stop.LaidErr
import Derived.MakeChecks
import Derived.Deep.DeepHandedRow
import Derived.Deep.DeepWitnessRowRef
set_option linter.unusedSimpArgs false
set_option linter.unusedVariables false
namespace Go.Proofs.YtkocimfdgdegfaaGreatDoor.E.S11.matchContraryUptoRow
open Go Go.Proofs Go.Proofs.YtkocimfdgdegfaaGreatDoor
open Go.ChangeShapes Go.WideShapes Go.ChangeAt Go.RowKit
open Go.ChangeMaps (open_string shut_string)
theorem own : ownKnob Tryz.prog.godebug = none := by kernel_rfl
theorem gO : Tryz.prog.globalNamed "strconv.ErrSyntax" = some 4 := by kernel_rfl
theorem gT : (Tryz.prog.globals[4]?).map (·.type) = some 190 := by kernel_rfl
theorem cT : Tryz.prog.cellsOf 210 = 1 := by kernel_rfl
theorem cS : Tryz.prog.cellsOf 9 = 1 := by kernel_rfl
theorem star : "*" ++ "errors.errorString" = "*errors.errorString" := by decide
theorem rowT (u : TypeId) (h : Tryz.prog.typeName? 3 u = some "*errors.errorString") : u = 208 :=
  typeName_ptr_named (nm := "errors.errorString") (by rw [star]; kernel_rfl) (by kernel_rfl) (by decide) u (by rw [star]; exact h)
theorem globs {W : World} {m : Int} (hL : laidMetH Tryz.prog Rows.matchContraryUptoRow.laid W) (hm : W.cell? ⟨0, 0, none⟩ = some (.int .i64 m)) : ∀ g v, (cfg m).glob g = some v → VR 0 (lay0 W) W (.rop v) (.pointer (some ⟨g, 0, none⟩)) := by
  intro g v h
  have h : glob m g = some v := h
  unfold glob at h
  cases hz : Nat.beq g 0 with
  | true =>
    rw [hz] at h
    obtain rfl := Nat.eq_of_beq_eq_true hz
    cases h
    exact int_vr hm
  | false =>
    rw [hz] at h
    dsimp only [cond] at h
    cases hb : Nat.beq g 4 with
    | true =>
      rw [hb] at h
      obtain rfl := Nat.eq_of_beq_eq_true hb
      cases h
      have h1 : laidMet Tryz.prog Rows.matchContraryUptoRow.laid W := by
        have := hL
        rw [Go.MakeChecks.laidMetH_plain _ _ _ (by kernel_rfl)] at this
        exact this
      obtain ⟨a1, s1, hv1, hc1, hs1, hz1⟩ := laid_sentinel (h1.tail.tail.tail.tail) gO gT Tryz.underlying190 rowT Tryz.underlying208 Tryz.underlying210 rfl rfl Tryz.underlying9 cT cS
      exact sentinel_vr (by simpa using World.var?_cell gO hv1 0) hc1 hs1
    | false => rw [hb] at h; cases h
theorem walk (a0 : Int) (a1 : ByteArray) (a2 : ByteArray) (W : World) (hL : laidMetH Tryz.prog Rows.matchContraryUptoRow.laid W) {m : Int} (hm : W.cell? ⟨0, 0, none⟩ = some (.int .i64 m)) (hb : a1.data.toList.length + a2.data.toList.length ≤ 1048576) (w0 : (Lit.int .u8 a0).wf = true) :
    Calls Tryz.prog 3 #[.int .u8 a0, .string a1, .string a2] W fun e w' => e = .returned (.bool true) ∧ Below W.heap.size W w' :=
  entry_trueI (tab m) (rargs := [.int .u8 a0, .string a1, .string a2]) rfl (globs hL hm) (contrary_law m a0 a1.data.toList a2.data.toList (rngU8 w0) hb) (.cons (.int _ _) (.cons (.str _ _ rfl) (.cons (.str _ _ rfl) .nil)))
theorem door_met (os : Os) (args : Array Value) : laidMetH Tryz.prog Rows.matchContraryUptoRow.laid ((World.doorLaid Tryz.prog 1000 os).forCall (fun _ _ => 0) ⟨#[], args, []⟩).memory :=
  laidMetH_of_parts3 (fuel := 8) (laidMet_of_run' 8 (by kernel_rfl) (by kernel_rfl)) (by kernel_rfl) (by kernel_rfl)
theorem reads (os : Os) {H : Type} (enc : TypeId × Value → H) : ∃ places, DataW.whole enc Tryz.prog ((World.doorLaid Tryz.prog 1000 os).forCall (fun _ _ => 0) ⟨#[], #[.int .u8 0, .string ⟨#[]⟩, .string ⟨#[]⟩], []⟩).memory Tryz.f3.params.toList Rows.matchContrarySpec.vars false (#[.int .u8 0, .string ⟨#[]⟩, .string ⟨#[]⟩] : Array Value).toList 8 = some ([.lit (.int .u8 0), .lit (.string []), .lit (.string [])], [], places) :=
  ⟨[], by kernel_rfl⟩
set_option maxRecDepth 100000 in
theorem lifted (os : Os) (started : os.Started) (H : Type) (enc : TypeId × Value → H) (F : Stop.Interp) :
    ReturnsInHanded {} Tryz.checked os 3 .any ((Rows.OpenSpec.upto Rows.matchContrarySpec).preRow enc Tryz.prog Tryz.f3 Rows.matchContraryUptoRow.domain false Rows.matchContraryUptoRow.laid) (((Rows.OpenSpec.upto Rows.matchContrarySpec).at F).post enc Tryz.prog Tryz.f3 false true false false) := by
  obtain ⟨places, hx⟩ := reads os enc
  refine returnsInHanded_of_row (C := Tryz.checked) (s := Rows.OpenSpec.upto Rows.matchContrarySpec) own started (by kernel_rfl) Tryz.func3
    (witness_row_atRef (enc := enc) (C := Tryz.checked) false (World.doorLaid Tryz.prog 1000 os) #[.int .u8 0, .string ⟨#[]⟩, .string ⟨#[]⟩] rfl (by kernel_rfl) (by kernel_rfl) (by kernel_rfl)
      (OpenSpec.preRow_of_cond 8 hx (by kernel_rfl) (fun k hk => by cases hk; kernel_rfl) (by kernel_rfl) (door_met os _))) ?_
  intro W base args ds gs before hval0 hW _ hk0 _ hL hsh _
  have hk : Rows.uptoSmall H (ds ++ gs) = true := hk0 _ rfl
  obtain ⟨m, hm⟩ := Tryz.laysM144.s1_3 W hsh
  have hval : ∀ (j : Nat) t v, Tryz.f3.params[j]? = some t → args[j]? = some v → Value.okWide Tryz.prog W .any base t v := hval0
  have hW' := hW
  obtain ⟨p, q, hA0, hV, rfl, hfz, hnd⟩ := hW
  have hA : DataW.TrodAll enc Tryz.prog W 0 (fun _ => true) true Tryz.f3.params.toList args.toList ds p := hA0
  rw [Tryz.params3] at hA hval
  obtain ⟨v0, vs0, d0, ds0, p0, q0, hargs, rfl, rfl, h0, r0⟩ := trodAll_cons hA
  obtain ⟨v1, vs1, d1, ds1, p1, q1, rfl, rfl, rfl, h1, r1⟩ := trodAll_cons r0
  obtain ⟨v2, vs2, d2, ds2, p2, q2, rfl, rfl, rfl, h2, r2⟩ := trodAll_cons r1
  obtain ⟨rfl, rfl, rfl⟩ := trodAll_nil r2
  obtain rfl : args = #[v0, v1, v2] := by cases args; simp_all
  obtain ⟨rfl, rfl⟩ := trodVars_none hV
  obtain ⟨a0, rfl, rfl, rfl, w0⟩ := open_int Tryz.underlying5 (hval 0 5 v0 rfl rfl) h0
  obtain ⟨a1, rfl, rfl, rfl, w1⟩ := open_string Tryz.underlying9 (hval 1 9 v1 rfl rfl) h1
  obtain ⟨a2, rfl, rfl, rfl, w2⟩ := open_string Tryz.underlying9 (hval 2 9 v2 rfl rfl) h2
  have hb : a1.data.toList.length + a2.data.toList.length ≤ 1048576 := by
    have h := of_decide_eq_true hk
    simp only [List.append_nil, Rows.uptoBulkAll, Rows.uptoBulk] at h
    omega
  clear hA0 hval0
  refine (walk a0 a1 a2 W hL hm hb w0).mono fun e W' ⟨he, bel⟩ => ?_
  subst he
  exact ⟨_, rfl, _, _, _, [], _, [], hW', trodAll_mk1 (shut_bool Tryz.underlying4 _), (trodAll_cons_mk (shut_int Tryz.underlying5 w0) (trodAll_cons_mk (shut_string Tryz.underlying9 w1) (trodAll_cons_mk (shut_string Tryz.underlying9 w2) trodAll_mk0))), rfl, bel.frame _, fun h => by cases h⟩
theorem over : Rows.MatchContraryUptoSaid :=
  OpenClaim.holds_of_cond 3 Tryz.f3 rfl rfl rfl rfl rfl rfl rfl ⟨rfl, rfl, rfl, rfl, rfl⟩ rfl rfl rfl rfl rfl (by kernel_rfl) Tryz.func3 (by kernel_rfl)
    (of_decide_eq_true (by kernel_rfl)) (by unfold Func.isWrapper; first | (rw [if_pos (by decide +kernel)]; kernel_rfl) | (rw [if_neg (by decide +kernel)]; exact ⟨rfl, rfl⟩))
    (fun os started H enc _ F => by rw [OpenClaim.pre_eq_preRow]; exact lifted os started H enc F)
theorem proved : Rows.MatchContraryUptoCardSaid :=
  Claim7.holds_tied_plain_at .later [] [.data, .data, .data, .sentinel, .sentinel] true (true, "78639583e23f2f838ecec9fcfd4828e78d2fa313c544ff1bac0a0dcc746bf727") true
    over (fun _ h => by cases h) (by kernel_rfl) (fun _ h => by cases h) matchContraryUpto_row_tie rfl ⟨rfl, rfl⟩ (by kernel_rfl) rfl
    (fun f fn hf hfn => by
      obtain rfl : f = 3 := Option.some.inj ((show Tryz.prog.funcNamed "archivist/archivistlaw11.MatchContrary" = some 3 by kernel_rfl).symm.trans hf) |>.symm
      obtain rfl : fn = Tryz.f3 := (Option.some.inj (Tryz.func3.symm.trans hfn)).symm
      exact ⟨by kernel_rfl, fun j t ht => by
        rw [Tryz.params3] at ht
        have hm : t ∈ [5, 9, 9] := by simpa using Array.mem_of_getElem? ht
        have hall : ([5, 9, 9].all fun u => !Tryz.prog.wantsStandIn u) = true := by kernel_rfl
        exact (show Tryz.prog.wantsStandIn t = false by simpa using List.all_eq_true.1 hall t hm)⟩)
    (by kernel_rfl)
#print axioms proved
end Go.Proofs.YtkocimfdgdegfaaGreatDoor.E.S11.matchContraryUptoRow
