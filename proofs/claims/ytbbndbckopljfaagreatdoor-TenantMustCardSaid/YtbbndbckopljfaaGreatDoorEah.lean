/- Steps of the seat's proofs: an evaluator of the program's code, its soundness, and what the functions come to. -/
import Derived.Test.YtbbndbckopljfaaGreatDoorEag
import Derived.Shelf.SlIter.Nil
import Derived.Shelf.SortM.Plain
import Derived.Shelf.SortM.SortNone
import Derived.Ground.GgzProg
import Derived.Ground.SlgmProg
import Derived.Test.YtbbndbckopljfaaGreatDoorProg
import Derived.KernelRfl
import Derived.Test.YtbbndbckopljfaaGreatDoorCards
import Derived.ProofKit
import Derived.ChangeSame
set_option linter.unusedSimpArgs false
set_option linter.unusedVariables false
/- slices.Sorted(maps.Keys(m)): the library's contracts, laid at this dump. -/
namespace Go.Proofs
open Go.Shelf
def Tryz.keys28_ren : Go.Shelf.Ren := ⟨fun | 7 => 28 | 10 => 54 | n => n, fun | 23 => 39 | 26 => 9 | 3 => 27 | 28 => 91 | 0 => 0 | 27 => 90 | 33 => 101 | 4 => 4 | n => n, fun | n => n⟩
theorem Tryz.keys28 : Go.Proofs.SlLaysZ.n7 Tryz.prog Tryz.keys28_ren := {
  mixed := by kernel_rfl
  f7 := ⟨Tryz.f28.name, by decide, Tryz.func28.trans (congrArg some (by kernel_rfl))⟩
  f10 := ⟨Tryz.f54.name, by decide, Tryz.func54.trans (congrArg some (by kernel_rfl))⟩
  t0 := Tryz.underlying0
  a0 := Tryz.isAgg0
  z0 := Tryz.sizeOf0
  v0 := Tryz.zeroValue0
  t4 := Tryz.underlying4
  a4 := Tryz.isAgg4
  z4 := Tryz.sizeOf4
  v4 := Tryz.zeroValue4
  t23 := Tryz.underlying39
  a23 := Tryz.isAgg39
  z23 := Tryz.sizeOf39
  v23 := Tryz.zeroValue39
  t26 := Tryz.underlying9
  a26 := Tryz.isAgg9
  z26 := Tryz.sizeOf9
  v26 := Tryz.zeroValue9
  t27 := Tryz.underlying90
  a27 := Tryz.isAgg90
  z27 := Tryz.sizeOf90
  v27 := Tryz.zeroValue90
  t28 := Tryz.underlying91
  a28 := Tryz.isAgg91
  z28 := Tryz.sizeOf91
  v28 := Tryz.zeroValue91
  t33 := Tryz.underlying101
  a33 := Tryz.isAgg101
  z33 := Tryz.sizeOf101
  v33 := Tryz.zeroValue101 }
def Tryz.sorted27_ren : Go.Shelf.Ren := ⟨fun | 6 => 27 | 8 => 52 | 9 => 53 | 11 => 67 | 13 => 69 | 12 => 68 | 23 => 87 | 24 => 88 | 14 => 78 | 15 => 79 | 16 => 80 | 17 => 81 | 18 => 82 | 19 => 83 | 20 => 84 | 21 => 85 | 22 => 86 | 25 => 99 | 26 => 100 | 27 => 101 | 28 => 102 | 29 => 103 | 30 => 104 | 31 => 112 | n => n, fun | 26 => 9 | 28 => 91 | 24 => 32 | 0 => 0 | 3 => 3 | 37 => 134 | 48 => 167 | 50 => 169 | 4 => 4 | 40 => 161 | 39 => 160 | 45 => 102 | 5 => 5 | 9 => 9 | 51 => 196 | 55 => 200 | 57 => 217 | 58 => 218 | 33 => 101 | n => n, fun | n => n⟩
theorem Tryz.sorted27 : Go.Proofs.SlLaysZ.n6 Tryz.prog Tryz.sorted27_ren := {
  mixed := by kernel_rfl
  f6 := ⟨Tryz.f27.name, by decide, Tryz.func27.trans (congrArg some (by kernel_rfl))⟩
  f8 := ⟨Tryz.f52.name, by decide, Tryz.func52.trans (congrArg some (by kernel_rfl))⟩
  f11 := ⟨Tryz.f67.name, by decide, Tryz.func67.trans (congrArg some (by kernel_rfl))⟩
  t0 := Tryz.underlying0
  a0 := Tryz.isAgg0
  z0 := Tryz.sizeOf0
  v0 := Tryz.zeroValue0
  t24 := Tryz.underlying32
  a24 := Tryz.isAgg32
  z24 := Tryz.sizeOf32
  v24 := Tryz.zeroValue32
  t26 := Tryz.underlying9
  a26 := Tryz.isAgg9
  z26 := Tryz.sizeOf9
  v26 := Tryz.zeroValue9
  t28 := Tryz.underlying91
  a28 := Tryz.isAgg91
  z28 := Tryz.sizeOf91
  v28 := Tryz.zeroValue91
  i26 := by kernel_rfl }
def Tryz.sort53_ren : Go.Shelf.Ren := ⟨fun | 6 => 53 | 8 => 69 | 9 => 68 | 19 => 87 | 20 => 88 | 21 => 78 | 22 => 79 | 23 => 80 | 24 => 81 | 25 => 82 | 26 => 83 | 27 => 84 | 28 => 85 | 29 => 86 | 36 => 99 | 31 => 100 | 32 => 101 | 37 => 102 | 38 => 103 | 39 => 104 | 41 => 112 | n => n, fun | 27 => 32 | 29 => 9 | 3 => 3 | 32 => 134 | 26 => 32 | 0 => 0 | 44 => 167 | 46 => 169 | 4 => 4 | 36 => 161 | 35 => 160 | 41 => 102 | 5 => 5 | 9 => 9 | 53 => 196 | 57 => 200 | 63 => 217 | 64 => 218 | n => n, fun | n => n⟩
theorem Tryz.sort53 : Go.Proofs.SlLaysM.n6 Tryz.prog Tryz.sort53_ren := {
  mixed := by kernel_rfl
  f6 := ⟨Tryz.f53.name, by decide, Tryz.func53.trans (congrArg some (by kernel_rfl))⟩
  f8 := Tryz.func69.trans (congrArg some (by kernel_rfl))
  f9 := ⟨Tryz.f68.name, by decide, Tryz.func68.trans (congrArg some (by kernel_rfl))⟩
  f19 := Tryz.func87.trans (congrArg some (by kernel_rfl))
  f20 := Tryz.func88.trans (congrArg some (by kernel_rfl))
  f21 := ⟨Tryz.f78.name, by decide, Tryz.func78.trans (congrArg some (by kernel_rfl))⟩
  f22 := ⟨Tryz.f79.name, by decide, Tryz.func79.trans (congrArg some (by kernel_rfl))⟩
  f23 := ⟨Tryz.f80.name, by decide, Tryz.func80.trans (congrArg some (by kernel_rfl))⟩
  f24 := ⟨Tryz.f81.name, by decide, Tryz.func81.trans (congrArg some (by kernel_rfl))⟩
  f25 := ⟨Tryz.f82.name, by decide, Tryz.func82.trans (congrArg some (by kernel_rfl))⟩
  f26 := ⟨Tryz.f83.name, by decide, Tryz.func83.trans (congrArg some (by kernel_rfl))⟩
  f27 := ⟨Tryz.f84.name, by decide, Tryz.func84.trans (congrArg some (by kernel_rfl))⟩
  f28 := ⟨Tryz.f85.name, by decide, Tryz.func85.trans (congrArg some (by kernel_rfl))⟩
  f29 := ⟨Tryz.f86.name, by decide, Tryz.func86.trans (congrArg some (by kernel_rfl))⟩
  f31 := Tryz.func100.trans (congrArg some (by kernel_rfl))
  f32 := Tryz.func101.trans (congrArg some (by kernel_rfl))
  f36 := ⟨Tryz.f99.name, by decide, Tryz.func99.trans (congrArg some (by kernel_rfl))⟩
  f37 := ⟨Tryz.f102.name, by decide, Tryz.func102.trans (congrArg some (by kernel_rfl))⟩
  f38 := ⟨Tryz.f103.name, by decide, Tryz.func103.trans (congrArg some (by kernel_rfl))⟩
  f39 := ⟨Tryz.f104.name, by decide, Tryz.func104.trans (congrArg some (by kernel_rfl))⟩
  f41 := ⟨Tryz.f112.name, by decide, Tryz.func112.trans (congrArg some (by kernel_rfl))⟩
  t0 := Tryz.underlying0
  a0 := Tryz.isAgg0
  z0 := Tryz.sizeOf0
  v0 := Tryz.zeroValue0
  t3 := Tryz.underlying3
  a3 := Tryz.isAgg3
  z3 := Tryz.sizeOf3
  v3 := Tryz.zeroValue3
  t4 := Tryz.underlying4
  a4 := Tryz.isAgg4
  z4 := Tryz.sizeOf4
  v4 := Tryz.zeroValue4
  t5 := Tryz.underlying5
  a5 := Tryz.isAgg5
  z5 := Tryz.sizeOf5
  v5 := Tryz.zeroValue5
  t9 := Tryz.underlying9
  a9 := Tryz.isAgg9
  z9 := Tryz.sizeOf9
  v9 := Tryz.zeroValue9
  t26 := Tryz.underlying32
  a26 := Tryz.isAgg32
  z26 := Tryz.sizeOf32
  v26 := Tryz.zeroValue32
  t27 := Tryz.underlying32
  a27 := Tryz.isAgg32
  z27 := Tryz.sizeOf32
  v27 := Tryz.zeroValue32
  t29 := Tryz.underlying9
  a29 := Tryz.isAgg9
  z29 := Tryz.sizeOf9
  v29 := Tryz.zeroValue9
  t32 := Tryz.underlying134
  a32 := Tryz.isAgg134
  z32 := Tryz.sizeOf134
  v32 := Tryz.zeroValue134
  t35 := Tryz.underlying160
  a35 := Tryz.isAgg160
  z35 := Tryz.sizeOf160
  v35 := Tryz.zeroValue160
  t36 := Tryz.underlying161
  a36 := Tryz.isAgg161
  z36 := Tryz.sizeOf161
  v36 := Tryz.zeroValue161
  t41 := Tryz.underlying102
  a41 := Tryz.isAgg102
  z41 := Tryz.sizeOf102
  v41 := Tryz.zeroValue102
  t44 := Tryz.underlying167
  a44 := Tryz.isAgg167
  z44 := Tryz.sizeOf167
  v44 := Tryz.zeroValue167
  t46 := Tryz.underlying169
  a46 := Tryz.isAgg169
  z46 := Tryz.sizeOf169
  v46 := Tryz.zeroValue169
  t53 := Tryz.underlying196
  a53 := Tryz.isAgg196
  z53 := Tryz.sizeOf196
  v53 := Tryz.zeroValue196
  t57 := Tryz.underlying200
  a57 := Tryz.isAgg200
  z57 := Tryz.sizeOf200
  v57 := Tryz.zeroValue200
  t63 := Tryz.underlying217
  a63 := Tryz.isAgg217
  z63 := Tryz.sizeOf217
  v63 := Tryz.zeroValue217
  t64 := Tryz.underlying218
  a64 := Tryz.isAgg218
  z64 := Tryz.sizeOf218
  v64 := Tryz.zeroValue218 }
end Go.Proofs
namespace Go.Proofs
open Go.RowKit Go.Maps Go.Sort Go.Shelf
/-- slices.Sort's two contracts at this dump, at the fence that asks nothing. -/
theorem Tryz.sorts27 (m : Nat) : AnyZ.SortsIn Tryz.prog Tryz.sorted27_ren Fence.wide m :=
  ⟨fun blk off cap ss W hH hblk hsz => callsIn_wide.2 (AnyM.slices_Sort_string Tryz.sort53 blk off cap ss W hH hblk hsz),
   fun p cap W => callsIn_wide.2 (AnyM.slices_Sort_string_none Tryz.sort53 p cap W)⟩

/-- **maps.Keys[archivist/tenant.policies,string,archivist/tenant.Policy], at whatever map, the nil one too:** a function value over ONE NEW BLOCK, which holds the map. -/
theorem Tryz.maps_Keys_28 (mb : Option Nat) (W : World) : CallsIn Fence.wide 5 Tryz.prog 28 #[.map mb] W fun e w' => e = .returned (.func (.func 54) #[] #[.pointer (some ⟨W.heap.size, 0, none⟩)]) ∧ w' = W.alloc (.cells #[.map mb] 39) :=
  AnyZ.keys_in Tryz.keys28 Fence.wide 5 trivial rfl mb W

set_option maxHeartbeats 1000000 in
/-- **slices.Sorted[string] AT WHAT maps.Keys[archivist/tenant.policies,string,archivist/tenant.Policy] HANDED BACK FOR A MAP THAT IS NOT nil** ('w': the world AHEAD of maps.Keys' call): A NEW SLICE THAT HOLDS THE MAP's KEYS, SORTED; nil just where it has none; nothing that lay before has turned. -/
theorem Tryz.slices_Sorted_keys_27_28 {H : Type} (b nn : Nat) (D0 : DataW H) (R : Value → Option (DataW H × List MemPlace)) (w : World) (hown : w.ownsMap Tryz.prog 9 R b nn D0) (hmax : Maps.size D0 ≤ maxLen) (hbytes : Maps.size D0 * 16 ≤ 140737488355328) :
    CallsIn Fence.wide 5 Tryz.prog 27 #[.func (.func 54) #[] #[.pointer (some ⟨w.heap.size, 0, none⟩)]] (w.alloc (.cells #[.map (some b)] 39)) fun e w' => ∃ (v : Value) (ss : List (List UInt8)), e = .returned v ∧ ss.Perm (strKeys D0) ∧
      w'.ownsRow (w.alloc (.cells #[.map (some b)] 39)).heap.size 9 1 v ss.length ((ss.mergeSort (fun x y => decide (x ≤ y))).map encStr) ∧ (v = .slice none 0 0 ↔ ss = []) ∧ Below (w.alloc (.cells #[.map (some b)] 39)).heap.size (w.alloc (.cells #[.map (some b)] 39)) w' := by
  have hbl := hown.lt
  have hseq : SeqGives Fence.wide 2 Tryz.prog 54 #[.pointer (some ⟨w.heap.size, 0, none⟩)] encStr (fun ss => ss.Perm (strKeys D0)) (Maps.size D0) (w.alloc (.cells #[.map (some b)] 39)) :=
    AnyZ.keys_gives (ρ := Tryz.keys28_ren) { Tryz.keys28 with } Fence.wide _ trivial rfl (by omega) w.heap.size b nn D0 _ (by simp) (by simp) (by
      obtain ⟨es, clock, hb, Ft, hs, hD⟩ := hown
      exact ⟨es, clock, (Below.heap_alloc _ _ b hbl).trans hb, Ft, hs, hD⟩)
  exact AnyZ.sorted_in Tryz.sorted27 Fence.wide 5 trivial trivial trivial trivial rfl (by omega) (Tryz.sorts27 _) (enters_of Tryz.func53 (by kernel_rfl) rfl) 54 #[.pointer (some ⟨w.heap.size, 0, none⟩)] trivial (enters_of Tryz.func54 (by kernel_rfl) rfl) _ _ hmax hbytes _ hseq

end Go.Proofs
open Go Go.Proofs Go.RowKit Go.Maps Go.Sort Go.Shelf
namespace Go.Proofs.YtbbndbckopljfaaGreatDoor.E.SW
set_option maxHeartbeats 1000000 in
theorem namesSays:NamesSays Tryz.prog 11 9:=by
 intro b nn D0 R w hown hmax hbytes
 refine (callsIn_wide (n:=6)).1 ?_
 have hfK:Fence.wide.fn 28:=trivial
 have hfS:Fence.wide.fn 27:=trivial
 refine callsIn_of_wp Tryz.func11 rfl trivial ?_ rfl
 simp only [Tryz.ntmps11,List.size_toArray,List.length_cons,List.length_nil,Nat.reduceAdd,Nat.reduceSub,Array.replicate_succ,Array.replicate_zero,List.push_toArray,List.append_toArray,List.nil_append,List.cons_append]
 gi_wp2_with (first
  | (gi_at_call 28;refine (Tryz.maps_Keys_28 _ _).mono ?_;rintro e w' ⟨rfl,rfl⟩)
  | (gi_at_call 27;refine (Tryz.slices_Sorted_keys_27_28 b nn D0 R w hown hmax hbytes).mono ?_;rintro e w' ⟨v,ss,rfl,hS,hrow,hnil,hb⟩))
 go_ret
 exact ⟨v,ss,rfl,hS,ownsRow_base_a hrow (by simp),hnil,((Below.refl _ w).alloc (Nat.le_refl _) _).trans (hb.mono (by simp))⟩
end Go.Proofs.YtbbndbckopljfaaGreatDoor.E.SW
/- The seat's codes stand the evaluator's look; its library calls say what they say. -/
open Go Go.Proofs Go.RowKit Go.Proofs.YtbbndbckopljfaaGreatDoor
namespace Go.Proofs.YtbbndbckopljfaaGreatDoor.E.SW
theorem codesOK (mm : FuncId → List AV → Option (AV × List Blk)) (m : Int) : (List.range 209).all (fun f => match Tryz.prog.funcs[f]? with
      | some fn => !(fn.name == "runtime.NumGoroutine") && (match FI.of fn with | some fi => codeOK (cfgM mm m) f fi.body | none => true)
      | none => true) = true := by kernel_rfl
theorem tysOKm {mm : FuncId → List AV → Option (AV × List Blk)} {m : Int} : TysOK Tryz.prog (cfgM mm m) := fun t ti h => by
  have h : (bif Nat.blt t 293 then tyAt tys t else none) = some ti := h
  simp only [cond_eq_ite] at h
  split at h
  · rename_i hlt
    rw [range_map tysOK t (blt_lt hlt)] at h
    exact tiOf_ok h
  · cases h
theorem ordOK : Tryz.prog.follows .mixedOrders = true := by kernel_rfl
theorem below_fmt (w : World) (k : Nat) (os : Array Obj) : Below w.heap.size w (Go.Sort.grow (w.drewN k) os) := ⟨rfl, rfl, rfl, by simp [Go.Sort.grow], fun i hi => Array.getElem?_append_left (by simpa using hi)⟩
theorem below_pi {w w' : World} {e : TypeId} (h : w' = w ∨ ∃ t, w' = Lib.bytesWorld w e t) : Below w.heap.size w w' := by
  rcases h with rfl | ⟨t, rfl⟩
  · exact Below.refl _ _
  · exact Lib.bytesWorld_below w _ _
theorem formatSays : FormatSays Tryz.prog 152 := fun n w h0 h1 ht => Calls.mono (Tryz.strconv_FormatInt_10 n h0 h1 w ht) fun _ _ ⟨e, k, os, h⟩ => ⟨e, by rw [h]; exact below_fmt _ _ _⟩
theorem parseSays : ParseSays Tryz.prog 147 257 263 1 2 := fun s w hs =>
  ⟨fun v hv => Calls.mono (Tryz.strconv_ParseInt_10_at64_ok s (by omega) v hv w) fun _ _ ⟨e, h⟩ => ⟨e, below_pi h⟩,
   fun te pe h1 h2 hc => by
    cases hv : Lib.parseIntB 64 s.data.toList with
    | ok v => exact absurd hv (h1 v)
    | range => exact absurd hv h2
    | _ => exact Any.strconv_ParseInt_10_at64_syntax Tryz.laysC174 s hs hv _ w hc (.inr ⟨te, pe, rfl⟩),
   fun te pe hv hc => Tryz.strconv_ParseInt_10_at64_range s hs hv _ w hc (.inr ⟨te, pe, rfl⟩)⟩
set_option maxRecDepth 100000 in
theorem extOK (mm : FuncId → List AV → Option (AV × List Blk)) (m : Int) : ∀ f e, ext f = some e → ∀ args v hp, e args = some v → ∀ B w0 L w (rargs : List Value), Inv (glob m) B w0 L w hp → CR hp.length L w args rargs → FCalls Tryz.prog f rargs.toArray w (CallPost (cfgM mm m) B w0 L w hp.length v hp) := by
  intro f e he args v hp hv B w0 L w rargs hI hA
  unfold ext at he
  cases h1 : Nat.beq f 89 with
  | true =>
    rw [h1] at he
    cases he
    obtain rfl := Nat.eq_of_beq_eq_true h1
    exact extCmp_ok (C := cfgM mm m) Tryz.func89 (by kernel_rfl) (by kernel_rfl) (by kernel_rfl) (by kernel_rfl) args v hp hv B w0 L w rargs hI hA
  | false =>
    rw [h1] at he
    cases h2 : Nat.beq f 137 with
    | true =>
      rw [h2] at he
      cases he
      obtain rfl := Nat.eq_of_beq_eq_true h2
      exact extIx_ok (C := cfgM mm m) Tryz.func137 (by kernel_rfl) (by kernel_rfl) (by kernel_rfl) (by kernel_rfl) args v hp hv B w0 L w rargs hI hA
    | false =>
      rw [h2] at he
      cases h3 : Nat.beq f 152 with
      | true =>
        rw [h3] at he
        cases he
        obtain rfl := Nat.eq_of_beq_eq_true h3
        exact extFmt_ok (C := cfgM mm m) (g := 3) Tryz.func152 (by kernel_rfl) (by kernel_rfl) formatSays (by kernel_rfl) rfl args v hp hv B w0 L w rargs hI hA
      | false =>
        rw [h3] at he
        cases h4 : Nat.beq f 147 with
        | true =>
          rw [h4] at he
          cases he
          obtain rfl := Nat.eq_of_beq_eq_true h4
          exact extPI_ok (C := cfgM mm m) (T := 257) (q := 263) (gS := 1) (gR := 2) Tryz.func147 (by kernel_rfl) (by kernel_rfl) parseSays rfl rfl args v hp hv B w0 L w rargs hI hA
        | false =>
          rw [h4] at he
          cases he
set_option maxRecDepth 100000 in
theorem extHOK (mm : FuncId → List AV → Option (AV × List Blk)) (m : Int) : ∀ f e, extH f = some e → ∀ args v hp, e hp args = some v → ∀ B w0 L w (rargs : List Value), Inv (glob m) B w0 L w hp → CR hp.length L w args rargs → FCalls Tryz.prog f rargs.toArray w (CallPost (cfgM mm m) B w0 L w hp.length v hp) := by
  intro f e he args v hp hv B w0 L w rargs hI hA
  unfold extH at he
  cases h1 : Nat.beq f 11 with
  | true =>
    rw [h1] at he
    cases he
    obtain rfl := Nat.eq_of_beq_eq_true h1
    exact extNames_ok (C := cfgM mm m) Tryz.func11 (by kernel_rfl) (by kernel_rfl) namesSays (by kernel_rfl) args v hp hv B w0 L w rargs hI hA
  | false =>
    rw [h1] at he
    cases he
set_option maxRecDepth 100000 in
theorem insOK (mm : FuncId → List AV → Option (AV × List Blk)) (m : Int) : ∀ f q, ins f = some q → ∀ fl args hp v hp', insE (cfgM mm m) fl f args hp = some (v, hp') → ∀ B w0 L w (rargs : List Value), Inv (glob m) B w0 L w hp → CR hp.length L w args rargs → FCalls Tryz.prog f rargs.toArray w (CallPost (cfgM mm m) B w0 L w hp.length v hp') := by
  intro f q hq
  unfold ins at hq
  cases h1 : Nat.beq f 34 with
  | true =>
    rw [h1] at hq
    obtain rfl := Nat.eq_of_beq_eq_true h1
    exact insE_ok (P := Tryz.prog) (C := cfgM mm m) tysOKm (f := 34) (fn := Tryz.f34) Tryz.func34 (by kernel_rfl) (by kernel_rfl) (tS := 51) (tV := 50) (tI := 3) (tE := 100) (show (cfgM mm m).ty 51 = some ⟨.slice 100, 1, 24, [.nilS], false⟩ by kernel_rfl) (show (cfgM mm m).ty 50 = some ⟨.slice 100, 1, 24, [.nilS], false⟩ by kernel_rfl) (show (cfgM mm m).ty 3 = some ⟨.int .i64, 1, 8, [.int .i64 0], true⟩ by kernel_rfl) (show (cfgM mm m).ty 100 = some ⟨.struct [(0, 9), (1, 9)], 2, 32, [.str [], .str []], true⟩ by kernel_rfl) rfl rfl (z := .agg [.str [], .str []]) rfl rfl insSays (by kernel_rfl)
  | false =>
    rw [h1] at hq
    cases hq
set_option maxRecDepth 100000 in
theorem tabM (mm : FuncId → List AV → Option (AV × List Blk)) (m : Int) (hm : ∀ f args r, mm f args = some r → ∀ hp B w0 L w (rargs : List Value), Inv (glob m) B w0 L w hp → CR hp.length L w args rargs → FCalls Tryz.prog f rargs.toArray w (CallPost (cfgM mm m) B w0 L w hp.length (shA hp.length r.1) (hp ++ r.2.map (shB hp.length)))) : TabOK Tryz.prog (cfgM mm m) := mkTab tysOK fnsOK (codesOK mm m) ordOK (extOK mm m) (hextH := extHOK mm m) (hins := insOK mm m) (hmemo := hm)
theorem tab0 (m : Int) : TabOK Tryz.prog (cfg0 m) := tabM _ m (by intro f args r h; cases h)
end Go.Proofs.YtbbndbckopljfaaGreatDoor.E.SW
open Go Go.Proofs
namespace Go.Proofs.YtbbndbckopljfaaGreatDoor.E.SW
theorem memo_glob {m:Int}:(cfg0 m).glob=(cfgM memo m).glob:=rfl
theorem memo_glob1 {m:Int}:(cfg0 m).glob=(cfgM memo1 m).glob:=rfl
theorem memo_glob2 {m:Int}:(cfg1 m).glob=(cfgM memo m).glob:=rfl
set_option maxRecDepth 100000 in
theorem tab1 (m:Int):TabOK Tryz.prog (cfg1 m):=tabM memo1 m fun f args r h=>by
 obtain ⟨rfl,s,rfl,hm⟩:=memo1_of h
 intro hp B w0 L w rargs hI hA
 exact memo_ok (C0:=cfg0 m) (C:=cfgM memo1 m) (k:=3000) (v:=r.1) (h1:=r.2) (tab0 m) memo_glob1 (memo_ev hm) rfl hp B w0 L w rargs hI hA
set_option maxRecDepth 1000000 in
theorem mO0 {m:Int}:∀ n ∈ mNms,∀ o ∈ mOps,evCall (cfg1 m) 3000 0 41 [.agg [.str n, .str o.1, .str [97]]] []=mOf n o.1 [97]:=by
 intro n hn o ho
 simp only [mNms,mOps,List.mem_cons,List.not_mem_nil,or_false] at hn ho
 rcases hn with rfl | rfl | rfl <;> rcases ho with rfl | rfl | rfl | rfl <;> kernel_rfl
set_option maxRecDepth 1000000 in
theorem mO1 {m:Int}:∀ n ∈ mNms,∀ o ∈ mOps,evCall (cfg1 m) 3000 0 41 [.agg [.str n, .str o.1, .str [98]]] []=mOf n o.1 [98]:=by
 intro n hn o ho
 simp only [mNms,mOps,List.mem_cons,List.not_mem_nil,or_false] at hn ho
 rcases hn with rfl | rfl | rfl <;> rcases ho with rfl | rfl | rfl | rfl <;> kernel_rfl
set_option maxRecDepth 1000000 in
theorem mO2 {m:Int}:∀ n ∈ mNms,∀ o ∈ mOps,evCall (cfg1 m) 3000 0 41 [.agg [.str n, .str o.1, .str [120,49]]] []=mOf n o.1 [120,49]:=by
 intro n hn o ho
 simp only [mNms,mOps,List.mem_cons,List.not_mem_nil,or_false] at hn ho
 rcases hn with rfl | rfl | rfl <;> rcases ho with rfl | rfl | rfl | rfl <;> kernel_rfl
set_option maxRecDepth 1000000 in
theorem mO3 {m:Int}:∀ n ∈ mNms,∀ o ∈ mOps,evCall (cfg1 m) 3000 0 41 [.agg [.str n, .str o.1, .str []]] []=mOf n o.1 []:=by
 intro n hn o ho
 simp only [mNms,mOps,List.mem_cons,List.not_mem_nil,or_false] at hn ho
 rcases hn with rfl | rfl | rfl <;> rcases ho with rfl | rfl | rfl | rfl <;> kernel_rfl
set_option maxRecDepth 1000000 in
theorem mO4 {m:Int}:∀ n ∈ mNms,∀ o ∈ mOps,evCall (cfg1 m) 3000 0 41 [.agg [.str n, .str o.1, .str [97,124,98]]] []=mOf n o.1 [97,124,98]:=by
 intro n hn o ho
 simp only [mNms,mOps,List.mem_cons,List.not_mem_nil,or_false] at hn ho
 rcases hn with rfl | rfl | rfl <;> rcases ho with rfl | rfl | rfl | rfl <;> kernel_rfl
set_option maxRecDepth 1000000 in
theorem mO5 {m:Int}:∀ n ∈ mNms,∀ o ∈ mOps,evCall (cfg1 m) 3000 0 41 [.agg [.str n, .str o.1, .str [120,46,42]]] []=mOf n o.1 [120,46,42]:=by
 intro n hn o ho
 simp only [mNms,mOps,List.mem_cons,List.not_mem_nil,or_false] at hn ho
 rcases hn with rfl | rfl | rfl <;> rcases ho with rfl | rfl | rfl | rfl <;> kernel_rfl
set_option maxRecDepth 1000000 in
theorem mO6 {m:Int}:∀ n ∈ mNms,∀ o ∈ mOps,evCall (cfg1 m) 3000 0 41 [.agg [.str n, .str o.1, .str [91,97,98,93,43]]] []=mOf n o.1 [91,97,98,93,43]:=by
 intro n hn o ho
 simp only [mNms,mOps,List.mem_cons,List.not_mem_nil,or_false] at hn ho
 rcases hn with rfl | rfl | rfl <;> rcases ho with rfl | rfl | rfl | rfl <;> kernel_rfl
set_option maxRecDepth 1000000 in
theorem mO7 {m:Int}:∀ n ∈ mNms,∀ o ∈ mOps,evCall (cfg1 m) 3000 0 41 [.agg [.str n, .str o.1, .str [53,109]]] []=mOf n o.1 [53,109]:=by
 intro n hn o ho
 simp only [mNms,mOps,List.mem_cons,List.not_mem_nil,or_false] at hn ho
 rcases hn with rfl | rfl | rfl <;> rcases ho with rfl | rfl | rfl | rfl <;> kernel_rfl
set_option maxRecDepth 1000000 in
theorem mO8 {m:Int}:∀ n ∈ mNms,∀ o ∈ mOps,evCall (cfg1 m) 3000 0 41 [.agg [.str n, .str o.1, .str [110,111,110,101]]] []=mOf n o.1 [110,111,110,101]:=by
 intro n hn o ho
 simp only [mNms,mOps,List.mem_cons,List.not_mem_nil,or_false] at hn ho
 rcases hn with rfl | rfl | rfl <;> rcases ho with rfl | rfl | rfl | rfl <;> kernel_rfl
theorem mO_ev {m:Int} {n o v:List UInt8} {r:AV × List Blk} (h:mOf n o v=some r):evCall (cfg1 m) 3000 0 41 [.agg [.str n, .str o, .str v]] []=some (r.1,r.2):=by
 obtain ⟨hn,rx,nt,q,ho,hv⟩:=mOf_of h
 unfold memoL at hv
 simp only [List.mem_cons,List.not_mem_nil,or_false,Prod.mk.injEq] at hv
 rcases hv with ⟨rfl,rfl⟩ | ⟨rfl,rfl⟩ | ⟨rfl,rfl⟩ | ⟨rfl,rfl⟩ | ⟨rfl,rfl⟩ | ⟨rfl,rfl⟩ | ⟨rfl,rfl⟩ | ⟨rfl,rfl⟩ | ⟨rfl,rfl⟩
 ·exact (mO0 (m:=m) n hn _ ho).trans h
 ·exact (mO1 (m:=m) n hn _ ho).trans h
 ·exact (mO2 (m:=m) n hn _ ho).trans h
 ·exact (mO3 (m:=m) n hn _ ho).trans h
 ·exact (mO4 (m:=m) n hn _ ho).trans h
 ·exact (mO5 (m:=m) n hn _ ho).trans h
 ·exact (mO6 (m:=m) n hn _ ho).trans h
 ·exact (mO7 (m:=m) n hn _ ho).trans h
 ·exact (mO8 (m:=m) n hn _ ho).trans h
set_option maxRecDepth 100000 in
theorem tab (m:Int):TabOK Tryz.prog (cfg m):=tabM memo m fun f args r h=>by
 rcases memo_of h with ⟨rfl,s,rfl,hm⟩ | ⟨rfl,n,o,v,rfl,hm⟩
 ·intro hp B w0 L w rargs hI hA
  exact memo_ok (C0:=cfg0 m) (C:=cfgM memo m) (k:=3000) (v:=r.1) (h1:=r.2) (tab0 m) memo_glob (memo_ev hm) rfl hp B w0 L w rargs hI hA
 ·intro hp B w0 L w rargs hI hA
  exact memo_ok (C0:=cfg1 m) (C:=cfgM memo m) (k:=3000) (v:=r.1) (h1:=r.2) (tab1 m) memo_glob2 (mO_ev hm) rfl hp B w0 L w rargs hI hA
end Go.Proofs.YtbbndbckopljfaaGreatDoor.E.SW
namespace Go.Proofs.YtbbndbckopljfaaGreatDoor.E.SW
section
open Go
end
end Go.Proofs.YtbbndbckopljfaaGreatDoor.E.SW
namespace Go.Proofs.YtbbndbckopljfaaGreatDoor.E.SW
open Go Go.Proofs E E.R E.L
theorem ty2:(cfg 0).ty 2=some ⟨.int .i64,1,8,[.int .i64 (0)],true⟩:=by kernel_rfl
theorem ty9:(cfg 0).ty 9=some ⟨.string,1,16,[.str []],true⟩:=by kernel_rfl
theorem ty100:(cfg 0).ty 100=some ⟨.struct [(0,9),(1,9)],2,32,[.str [], .str []],true⟩:=by kernel_rfl
theorem ty4:(cfg 0).ty 4=some ⟨.bool,1,1,[.bool false],true⟩:=by kernel_rfl
theorem ty5:(cfg 0).ty 5=some ⟨.int .u8,1,1,[.int .u8 (0)],true⟩:=by kernel_rfl
theorem ty107:(cfg 0).ty 107=some ⟨.struct [(0,100),(2,4),(3,5)],4,40,[.str [], .str [], .bool false, .int .u8 (0)],true⟩:=by kernel_rfl
theorem ty55:(cfg 0).ty 55=some ⟨.slice 107,1,24,[.nilS],false⟩:=by kernel_rfl
theorem ty68:(cfg 0).ty 68=some ⟨.struct [(0,9),(1,9),(2,9)],3,48,[.str [], .str [], .str []],true⟩:=by kernel_rfl
theorem ty25:(cfg 0).ty 25=some ⟨.slice 68,1,24,[.nilS],false⟩:=by kernel_rfl
theorem ty3:(cfg 0).ty 3=some ⟨.int .i64,1,8,[.int .i64 (0)],true⟩:=by kernel_rfl
theorem ty27:(cfg 0).ty 27=some ⟨.struct [(0,9),(1,25),(2,3),(3,2)],4,56,[.str [], .nilS, .int .i64 (0), .int .i64 (0)],false⟩:=by kernel_rfl
theorem ty70:(cfg 0).ty 70=some ⟨.struct [(0,68),(3,4),(4,5)],5,56,[.str [], .str [], .str [], .bool false, .int .u8 (0)],true⟩:=by kernel_rfl
theorem ty28:(cfg 0).ty 28=some ⟨.slice 70,1,24,[.nilS],false⟩:=by kernel_rfl
theorem ty30:(cfg 0).ty 30=some ⟨.struct [(0,27),(4,4),(5,5),(6,28)],7,88,[.str [], .nilS, .int .i64 (0), .int .i64 (0), .bool false, .int .u8 (0), .nilS],false⟩:=by kernel_rfl
theorem ty97:(cfg 0).ty 97=some ⟨.struct [(0,95),(6,4),(7,5),(8,2)],9,88,[.int .i64 (0), .str [], .str [], .str [], .int .i64 (0), .int .i64 (0), .bool false, .int .u8 (0), .int .i64 (0)],true⟩:=by kernel_rfl
theorem ty64:(cfg 0).ty 64=some ⟨.slice 97,1,24,[.nilS],false⟩:=by kernel_rfl
theorem ty66:(cfg 0).ty 66=some ⟨.struct [(0,28),(1,64)],2,48,[.nilS, .nilS],false⟩:=by kernel_rfl
theorem sh2 {d:Nat} {x:AV} (h:Sh (cfg 0) (d + 1) 2 x):∃ (n1:Int),x = .int .i64 n1∧(-9223372036854775808≤n1∧n1≤9223372036854775807):=by
 unfold Sh at h
 rw [ty2] at h
 obtain ⟨n,rfl,hw⟩:=h
 refine ⟨n,rfl, ?_⟩
 simp [Lit.wf,IntKind.min,IntKind.max,IntKind.signed,IntKind.bits] at hw
 omega
theorem sh9 {d:Nat} {x:AV} (h:Sh (cfg 0) (d + 1) 9 x):∃ (s1:Bs),x = .str s1∧(s1.length≤maxLen):=by
 unfold Sh at h
 rw [ty9] at h
 obtain ⟨b,rfl,h⟩:=h
 exact ⟨b,rfl,h⟩
theorem sh100 {d:Nat} {x:AV} (h:Sh (cfg 0) (d + 2) 100 x):∃ (s1:Bs) (s2:Bs),x = .agg [.str s1, .str s2]∧(s1.length≤maxLen)∧(s2.length≤maxLen):=by
 unfold Sh at h
 rw [ty100] at h
 obtain ⟨cs,rfl,hl,hf⟩:=h
 match cs,hl with
 | [c0,c1],_ =>
 obtain ⟨fi,y,h1,h2,h3⟩:=hf (0,9) (by simp)
 rw [ty9] at h1;cases h1
 have h2:some (c0)=some y:=h2
 cases h2
 obtain ⟨s1,rfl,f0_0⟩:=sh9 (d:=d + 0) h3
 obtain ⟨fi,y,h1,h2,h3⟩:=hf (1,9) (by simp)
 rw [ty9] at h1;cases h1
 have h2:some (c1)=some y:=h2
 cases h2
 obtain ⟨s2,rfl,f1_0⟩:=sh9 (d:=d + 0) h3
 exact ⟨s1,s2,rfl,f0_0,f1_0⟩
theorem sh4 {d:Nat} {x:AV} (h:Sh (cfg 0) (d + 1) 4 x):∃ (b1:Bool),x = .bool b1:=by
 unfold Sh at h
 rw [ty4] at h
 obtain ⟨b,rfl⟩:=h
 exact ⟨b,rfl⟩
theorem sh5 {d:Nat} {x:AV} (h:Sh (cfg 0) (d + 1) 5 x):∃ (n1:Int),x = .int .u8 n1∧(0≤n1∧n1≤255):=by
 unfold Sh at h
 rw [ty5] at h
 obtain ⟨n,rfl,hw⟩:=h
 refine ⟨n,rfl, ?_⟩
 simp [Lit.wf,IntKind.min,IntKind.max,IntKind.signed,IntKind.bits] at hw
 omega
theorem sh107 {d:Nat} {x:AV} (h:Sh (cfg 0) (d + 3) 107 x):∃ (s1:Bs) (s2:Bs) (b3:Bool) (n4:Int),x = .agg [.str s1, .str s2, .bool b3, .int .u8 n4]∧(s1.length≤maxLen)∧(s2.length≤maxLen)∧(0≤n4∧n4≤255):=by
 unfold Sh at h
 rw [ty107] at h
 obtain ⟨cs,rfl,hl,hf⟩:=h
 match cs,hl with
 | [c0,c1,c2,c3],_ =>
 obtain ⟨fi,y,h1,h2,h3⟩:=hf (0,100) (by simp)
 rw [ty100] at h1;cases h1
 have h2:some (AV.agg [c0,c1])=some y:=h2
 cases h2
 obtain ⟨s1,s2,e0,f0_0,f0_1⟩:=sh100 (d:=d + 0) h3
 cases e0
 obtain ⟨fi,y,h1,h2,h3⟩:=hf (2,4) (by simp)
 rw [ty4] at h1;cases h1
 have h2:some (c2)=some y:=h2
 cases h2
 obtain ⟨b3,rfl⟩:=sh4 (d:=d + 1) h3
 obtain ⟨fi,y,h1,h2,h3⟩:=hf (3,5) (by simp)
 rw [ty5] at h1;cases h1
 have h2:some (c3)=some y:=h2
 cases h2
 obtain ⟨n4,rfl,f2_0⟩:=sh5 (d:=d + 1) h3
 exact ⟨s1,s2,b3,n4,rfl,f0_0,f0_1,f2_0⟩
theorem sh55 {d:Nat} {x:AV} (h:Sh (cfg 0) (d + 1) 55 x):∃ xs,ArgSl 4 x xs∧∀ y ∈ xs,Sh (cfg 0) d 107 y:=by
 unfold Sh at h
 rw [ty55] at h
 have hs:sizeT (cfg 0) 107=4:=by unfold sizeT;rw [ty107]
 rcases h with rfl | ⟨xs,rfl,_,hx⟩
 ·exact ⟨[], .inl ⟨rfl,rfl⟩,fun y hy=>by cases hy⟩
 ·exact ⟨xs, .inr (by rw [hs]),hx⟩
theorem sh68 {d:Nat} {x:AV} (h:Sh (cfg 0) (d + 2) 68 x):∃ (s1:Bs) (s2:Bs) (s3:Bs),x = .agg [.str s1, .str s2, .str s3]∧(s1.length≤maxLen)∧(s2.length≤maxLen)∧(s3.length≤maxLen):=by
 unfold Sh at h
 rw [ty68] at h
 obtain ⟨cs,rfl,hl,hf⟩:=h
 match cs,hl with
 | [c0,c1,c2],_ =>
 obtain ⟨fi,y,h1,h2,h3⟩:=hf (0,9) (by simp)
 rw [ty9] at h1;cases h1
 have h2:some (c0)=some y:=h2
 cases h2
 obtain ⟨s1,rfl,f0_0⟩:=sh9 (d:=d + 0) h3
 obtain ⟨fi,y,h1,h2,h3⟩:=hf (1,9) (by simp)
 rw [ty9] at h1;cases h1
 have h2:some (c1)=some y:=h2
 cases h2
 obtain ⟨s2,rfl,f1_0⟩:=sh9 (d:=d + 0) h3
 obtain ⟨fi,y,h1,h2,h3⟩:=hf (2,9) (by simp)
 rw [ty9] at h1;cases h1
 have h2:some (c2)=some y:=h2
 cases h2
 obtain ⟨s3,rfl,f2_0⟩:=sh9 (d:=d + 0) h3
 exact ⟨s1,s2,s3,rfl,f0_0,f1_0,f2_0⟩
theorem sh25 {d:Nat} {x:AV} (h:Sh (cfg 0) (d + 1) 25 x):∃ xs,ArgSl 3 x xs∧∀ y ∈ xs,Sh (cfg 0) d 68 y:=by
 unfold Sh at h
 rw [ty25] at h
 have hs:sizeT (cfg 0) 68=3:=by unfold sizeT;rw [ty68]
 rcases h with rfl | ⟨xs,rfl,_,hx⟩
 ·exact ⟨[], .inl ⟨rfl,rfl⟩,fun y hy=>by cases hy⟩
 ·exact ⟨xs, .inr (by rw [hs]),hx⟩
theorem sh3 {d:Nat} {x:AV} (h:Sh (cfg 0) (d + 1) 3 x):∃ (n1:Int),x = .int .i64 n1∧(-9223372036854775808≤n1∧n1≤9223372036854775807):=by
 unfold Sh at h
 rw [ty3] at h
 obtain ⟨n,rfl,hw⟩:=h
 refine ⟨n,rfl, ?_⟩
 simp [Lit.wf,IntKind.min,IntKind.max,IntKind.signed,IntKind.bits] at hw
 omega
theorem sh27 {d:Nat} {x:AV} (h:Sh (cfg 0) (d + 2) 27 x):∃ (s1:Bs) (x2:AV) (x2s:List AV) (n3:Int) (n4:Int),x = .agg [.str s1,x2, .int .i64 n3, .int .i64 n4]∧(s1.length≤maxLen)∧(ArgSl 3 x2 x2s∧∀ y ∈ x2s,Sh (cfg 0) (d + 0) 68 y)∧(-9223372036854775808≤n3∧n3≤9223372036854775807)∧(-9223372036854775808≤n4∧n4≤9223372036854775807):=by
 unfold Sh at h
 rw [ty27] at h
 obtain ⟨cs,rfl,hl,hf⟩:=h
 match cs,hl with
 | [c0,c1,c2,c3],_ =>
 obtain ⟨fi,y,h1,h2,h3⟩:=hf (0,9) (by simp)
 rw [ty9] at h1;cases h1
 have h2:some (c0)=some y:=h2
 cases h2
 obtain ⟨s1,rfl,f0_0⟩:=sh9 (d:=d + 0) h3
 obtain ⟨fi,y,h1,h2,h3⟩:=hf (1,25) (by simp)
 rw [ty25] at h1;cases h1
 have h2:some (c1)=some y:=h2
 cases h2
 obtain ⟨x2s,f1_0⟩:=sh25 h3
 obtain ⟨fi,y,h1,h2,h3⟩:=hf (2,3) (by simp)
 rw [ty3] at h1;cases h1
 have h2:some (c2)=some y:=h2
 cases h2
 obtain ⟨n3,rfl,f2_0⟩:=sh3 (d:=d + 0) h3
 obtain ⟨fi,y,h1,h2,h3⟩:=hf (3,2) (by simp)
 rw [ty2] at h1;cases h1
 have h2:some (c3)=some y:=h2
 cases h2
 obtain ⟨n4,rfl,f3_0⟩:=sh2 (d:=d + 0) h3
 exact ⟨s1,c1,x2s,n3,n4,rfl,f0_0,f1_0,f2_0,f3_0⟩
theorem sh70 {d:Nat} {x:AV} (h:Sh (cfg 0) (d + 3) 70 x):∃ (s1:Bs) (s2:Bs) (s3:Bs) (b4:Bool) (n5:Int),x = .agg [.str s1, .str s2, .str s3, .bool b4, .int .u8 n5]∧(s1.length≤maxLen)∧(s2.length≤maxLen)∧(s3.length≤maxLen)∧(0≤n5∧n5≤255):=by
 unfold Sh at h
 rw [ty70] at h
 obtain ⟨cs,rfl,hl,hf⟩:=h
 match cs,hl with
 | [c0,c1,c2,c3,c4],_ =>
 obtain ⟨fi,y,h1,h2,h3⟩:=hf (0,68) (by simp)
 rw [ty68] at h1;cases h1
 have h2:some (AV.agg [c0,c1,c2])=some y:=h2
 cases h2
 obtain ⟨s1,s2,s3,e0,f0_0,f0_1,f0_2⟩:=sh68 (d:=d + 0) h3
 cases e0
 obtain ⟨fi,y,h1,h2,h3⟩:=hf (3,4) (by simp)
 rw [ty4] at h1;cases h1
 have h2:some (c3)=some y:=h2
 cases h2
 obtain ⟨b4,rfl⟩:=sh4 (d:=d + 1) h3
 obtain ⟨fi,y,h1,h2,h3⟩:=hf (4,5) (by simp)
 rw [ty5] at h1;cases h1
 have h2:some (c4)=some y:=h2
 cases h2
 obtain ⟨n5,rfl,f2_0⟩:=sh5 (d:=d + 1) h3
 exact ⟨s1,s2,s3,b4,n5,rfl,f0_0,f0_1,f0_2,f2_0⟩
theorem sh28 {d:Nat} {x:AV} (h:Sh (cfg 0) (d + 1) 28 x):∃ xs,ArgSl 5 x xs∧∀ y ∈ xs,Sh (cfg 0) d 70 y:=by
 unfold Sh at h
 rw [ty28] at h
 have hs:sizeT (cfg 0) 70=5:=by unfold sizeT;rw [ty70]
 rcases h with rfl | ⟨xs,rfl,_,hx⟩
 ·exact ⟨[], .inl ⟨rfl,rfl⟩,fun y hy=>by cases hy⟩
 ·exact ⟨xs, .inr (by rw [hs]),hx⟩
theorem sh30 {d:Nat} {x:AV} (h:Sh (cfg 0) (d + 3) 30 x):∃ (s1:Bs) (x2:AV) (x2s:List AV) (n3:Int) (n4:Int) (b5:Bool) (n6:Int) (x7:AV) (x7s:List AV),x = .agg [.str s1,x2, .int .i64 n3, .int .i64 n4, .bool b5, .int .u8 n6,x7]∧(s1.length≤maxLen)∧(ArgSl 3 x2 x2s∧∀ y ∈ x2s,Sh (cfg 0) (d + 0) 68 y)∧(-9223372036854775808≤n3∧n3≤9223372036854775807)∧(-9223372036854775808≤n4∧n4≤9223372036854775807)∧(0≤n6∧n6≤255)∧(ArgSl 5 x7 x7s∧∀ y ∈ x7s,Sh (cfg 0) (d + 1) 70 y):=by
 unfold Sh at h
 rw [ty30] at h
 obtain ⟨cs,rfl,hl,hf⟩:=h
 match cs,hl with
 | [c0,c1,c2,c3,c4,c5,c6],_ =>
 obtain ⟨fi,y,h1,h2,h3⟩:=hf (0,27) (by simp)
 rw [ty27] at h1;cases h1
 have h2:some (AV.agg [c0,c1,c2,c3])=some y:=h2
 cases h2
 obtain ⟨s1,x2,x2s,n3,n4,e0,f0_0,f0_1,f0_2,f0_3⟩:=sh27 (d:=d + 0) h3
 cases e0
 obtain ⟨fi,y,h1,h2,h3⟩:=hf (4,4) (by simp)
 rw [ty4] at h1;cases h1
 have h2:some (c4)=some y:=h2
 cases h2
 obtain ⟨b5,rfl⟩:=sh4 (d:=d + 1) h3
 obtain ⟨fi,y,h1,h2,h3⟩:=hf (5,5) (by simp)
 rw [ty5] at h1;cases h1
 have h2:some (c5)=some y:=h2
 cases h2
 obtain ⟨n6,rfl,f2_0⟩:=sh5 (d:=d + 1) h3
 obtain ⟨fi,y,h1,h2,h3⟩:=hf (6,28) (by simp)
 rw [ty28] at h1;cases h1
 have h2:some (c6)=some y:=h2
 cases h2
 obtain ⟨x7s,f3_0⟩:=sh28 h3
 exact ⟨s1,c1,x2s,n3,n4,b5,n6,c6,x7s,rfl,f0_0,f0_1,f0_2,f0_3,f2_0,f3_0⟩
theorem sh64 {d:Nat} {x:AV} (h:Sh (cfg 0) (d + 1) 64 x):∃ xs,ArgSl 9 x xs∧∀ y ∈ xs,Sh (cfg 0) d 97 y:=by
 unfold Sh at h
 rw [ty64] at h
 have hs:sizeT (cfg 0) 97=9:=by unfold sizeT;rw [ty97]
 rcases h with rfl | ⟨xs,rfl,_,hx⟩
 ·exact ⟨[], .inl ⟨rfl,rfl⟩,fun y hy=>by cases hy⟩
 ·exact ⟨xs, .inr (by rw [hs]),hx⟩
theorem sh66 {d:Nat} {x:AV} (h:Sh (cfg 0) (d + 2) 66 x):∃ (x1:AV) (x1s:List AV) (x2:AV) (x2s:List AV),x = .agg [x1,x2]∧(ArgSl 5 x1 x1s∧∀ y ∈ x1s,Sh (cfg 0) (d + 0) 70 y)∧(ArgSl 9 x2 x2s∧∀ y ∈ x2s,Sh (cfg 0) (d + 0) 97 y):=by
 unfold Sh at h
 rw [ty66] at h
 obtain ⟨cs,rfl,hl,hf⟩:=h
 match cs,hl with
 | [c0,c1],_ =>
 obtain ⟨fi,y,h1,h2,h3⟩:=hf (0,28) (by simp)
 rw [ty28] at h1;cases h1
 have h2:some (c0)=some y:=h2
 cases h2
 obtain ⟨x1s,f0_0⟩:=sh28 h3
 obtain ⟨fi,y,h1,h2,h3⟩:=hf (1,64) (by simp)
 rw [ty64] at h1;cases h1
 have h2:some (c1)=some y:=h2
 cases h2
 obtain ⟨x2s,f1_0⟩:=sh64 h3
 exact ⟨c0,x1s,c1,x2s,rfl,f0_0,f1_0⟩
end Go.Proofs.YtbbndbckopljfaaGreatDoor.E.SW
namespace Go.Proofs.YtbbndbckopljfaaGreatDoor.E.SW
open Go Go.Proofs E E.R
theorem ex0 {m:Int}:evI (cfg m) 0 8 [] []=some (.bool true,[]):=by
 refine evI_of (k:=200) ?_
 kernel_rfl
theorem tmod_u {q:Int} (n:Nat) (h:0≤q) (hn:0 < n):∃ i:Nat,Int.tmod q (n:Int)=(i:Int)∧i < n:=by
 obtain ⟨k,rfl⟩:=Int.eq_ofNat_of_zero_le h
 exact ⟨k % n,rfl,Nat.mod_lt _ hn⟩
theorem wrap_u {q:Int}:0≤IntKind.u8.wrap q:=by
 unfold IntKind.wrap
 simp [IntKind.signed,IntKind.bits]
 omega
def Hs (hs:List AV):Prop:=∀ x ∈ hs,∃ (a b c:List UInt8) (w:Bool) (q:Int),x = .agg [.str a, .str b, .str c, .bool w, .int .u8 q]∧0≤q
end Go.Proofs.YtbbndbckopljfaaGreatDoor.E.SW
namespace Go.Proofs.YtbbndbckopljfaaGreatDoor.E.SW
open Go Go.Proofs E E.R E.L
def tgO (k:Int):Pr:=(tgN.getD (Int.tmod k 5).toNat [],tgV.getD (Int.tmod (IntKind.u8.wrap (Int.tdiv k 5)) 8).toNat [])
theorem tg_ok {m:Int} {k:Int} {a b:Bs} (hk:0≤k):∀ fl hp,evI (cfg m) fl 35 [tagA a b true k] hp=some (pAV (tgO k),hp):=by
 intro fl hp
 obtain ⟨i,h1,h2⟩:=tmod_u 5 hk (by decide)
 obtain ⟨j,h3,h4⟩:=tmod_u 8 (wrap_u (q:=Int.tdiv k 5)) (by decide)
 have hx:(tgN.map AV.str)[i]?=some (AV.str (tgN.getD i [])):=by
  rw [List.getElem?_map,List.getD_eq_getElem?_getD,List.getElem?_eq_getElem h2];rfl
 have hy:(tgV.map AV.str)[j]?=some (AV.str (tgV.getD j [])):=by
  rw [List.getElem?_map,List.getD_eq_getElem?_getD,List.getElem?_eq_getElem h4];rfl
 have:=tg_o (m:=m) (fl:=fl) (hp:=hp) (a:=a) (b:=b) h1 h2 hx h3 h4 hy
 unfold tgO
 have h1':Int.tmod k 5=(i:Int):=h1
 have h3':Int.tmod (IntKind.u8.wrap (Int.tdiv k 5)) 8=(j:Int):=h3
 rw [h1',h3']
 exact this
abbrev smSt (x y:AV) (n i:Nat):List TV:=[.v x, .v y]++List.replicate 10 J++[.v (AI n), .v (AI i)]++List.replicate 12 J
theorem sm_i {m:Int} {fl n i:Nat} {hp:List Blk} {x y:AV} {xs ys:List AV} {a b c:Bs} (hx:IsSl 3 x xs) (hy:IsSl 3 y ys) (hv:xs[i]?=some (mA a b c)) (hv2:ys[i]?=some (mA a b c)) (hn:xs.length=n) (hn2:ys.length=n) (hi:i < n) (hn3:n≤1000000000):LoopS (cfg m) fl 46 (bodyAt (cfg m) 46 4) 4 ⟨smSt x y n i,hp⟩ ⟨smSt x y n (i + 1),hp⟩:=by
 exact loopStepS (St.mk [TV.v x,TV.v y,J,J,J,J,J,J,J,J,J,J,TV.v (AI n),TV.v (AI ((↑i:Int) + 1)),J,J,J,J,J,J,J,J,J,J,J,J] hp) [.b 4 0 (decide_eq_true ((show (↑i:Int) < (↑n:Int) from (by omega)))), .a 6 2 (indexAddr_sl (C:=cfg m) (t:=25) (n:=(↑i:Int)) hx (by kernel_rfl) (by omega) hv), .a 6 6 (indexAddr_sl (C:=cfg m) (t:=25) (n:=(↑i:Int)) hy (by kernel_rfl) (by omega) hv2), .v 6 8 (ne_f (m:=m) (n:=a) (o:=b) (v:=c) (n':=a) (o':=b) (v':=c) (by kernel_rfl)), .w 8 0 IntKind.i64 ((↑i:Int) + 1) (wrap_i64' (by omega))] (by kernel_rfl) rfl
theorem sm_x {m:Int} {fl n:Nat} {hp:List Blk} {x y:AV}:LoopI (cfg m) fl 46 (bodyAt (cfg m) 46 4) 4 ⟨smSt x y n n,hp⟩ (.exit 0) ⟨List.replicate 26 J,hp⟩:=by
 exact loopEndC (.exit 0) (St.mk ([J]++Jn 25) hp) [.b 4 0 (decide_eq_false ((show ¬(↑n:Int) < (↑n:Int) from (by omega))))] (by kernel_rfl) (fun h=>by cases h) rfl
theorem sm_w {m:Int} {fl:Nat} {hp:List Blk} {x y:AV} {xs ys:List AV} (hx:IsSl 3 x xs) (hy:IsSl 3 y ys) (hn:ys.length=xs.length) (hlp:∀ fl,LoopI (cfg m) fl 46 (bodyAt (cfg m) 46 4) 4 ⟨smSt x y xs.length 0,hp⟩ (.exit 0) ⟨List.replicate 26 J,hp⟩):evI (cfg m) fl 46 [x,y] hp=some (.bool true,hp):=by
 exact evX (AV.bool true) (hp) [.m 1 1 (len_sl (C:=cfg m) (t:=25) (ts':=[]) (fl:=hp.length) (ar:=false) (hp:=hp) hx (by kernel_rfl)), .m 1 3 (len_sl (C:=cfg m) (t:=25) (ts':=[]) (fl:=hp.length) (ar:=false) (hp:=hp) hy (by kernel_rfl)), .b 1 4 (bne_eq_false_iff_eq.2 ((show (↑xs.length:Int)=(↑ys.length:Int) from (by omega)))), .m 3 1 (len_sl (C:=cfg m) (t:=25) (ts':=[]) (fl:=hp.length) (ar:=false) (hp:=hp) hx (by kernel_rfl)), .l 4 (hlp (hp.length))] (by kernel_rfl) (tlP (by kernel_rfl) rfl (shutT (v:=AV.bool true) (v':=AV.bool true) (by kernel_rfl))) rfl
theorem ss_w {m:Int} {fl:Nat} {hp:List Blk} {o1 o2:Own} {xs ys:List AV} (h1:∀ fl,evI (cfg m) fl 46 [.lit 3 o1 xs, .lit 3 o2 ys] hp=some (.bool true,hp)) (h2:∀ fl,evI (cfg m) fl 47 [.nilS, .nilS] hp=some (.bool true,hp)):evI (cfg m) fl 23 [qyA (.lit 3 o1 xs),qyA (.lit 3 o2 ys)] hp=some (.bool true,hp):=by
 exact evX (AV.bool true) (hp) [.c 1 4 (h1 (hp.length)), .c 1 10 (h2 (hp.length))] (by kernel_rfl) (tlP (by kernel_rfl) rfl (shutT (v:=AV.bool true) (v':=AV.bool true) (by kernel_rfl))) rfl
abbrev tsSt (l o:AV) (i:Nat):List TV:=[.v l, .v (AI 6),J,J,J, .v o, .v (AI i)]++List.replicate 20 J
theorem ts_i {m:Int} {fl i:Nat} {hp:List Blk} {a b:Bs} {w:Bool} {k:Int} {p:Pr} {l o:AV} {ls ms:List AV} (hl:IsSl 4 l ls) (hc:ls[i]?=some (tagA a b w k)) (hi:i < ls.length) (hi2:i < 6) (hh:∀ fl hp,evI (cfg m) fl 35 [tagA a b w k] hp=some (pAV p,hp)) (ho:Gr fl 2 hp o ms) (hlen:(ms.length + [pAV p].length) * 32≤140737488355328) (hf:fl≤hp.length):∃ hp' o',LoopS (cfg m) fl 19 (bodyAt (cfg m) 19 3) 3 ⟨tsSt l o i,hp⟩ ⟨tsSt l o' (i + 1),hp'⟩∧Gr fl 2 hp' o' (ms++[pAV p])∧FrC [] hp hp':=by
 obtain ⟨x'1,hp'2,e3,h4,h5⟩:=(app_2 (C:=cfg m) (y:=AV.lit 2 Own.exact [AV.agg [AV.str p.fst,AV.str p.snd]]) (t:=50) ho (by kernel_rfl) (by kernel_rfl) (by simp_all;done) hlen hf)
 exact ⟨hp'2,_,loopStepS (St.mk [TV.v l,TV.v (AI 6),J,J,J,TV.v x'1,TV.v (AI ((↑i:Int) + 1)),J,J,J,J,J,J,J,J,J,J,J,J,J,J,J,J,J,J,J,J] hp'2) [.m 3 2 (len_sl (C:=cfg m) (t:=55) (ts':=[]) (fl:=fl) (ar:=false) (hp:=hp) hl (by kernel_rfl)), .b 3 3 (decide_eq_true ((show (↑i:Int) < (↑ls.length:Int) from (by omega)))), .b 3 7 (decide_eq_true ((show (↑i:Int) < 6 from (by omega)))), .a 5 3 (indexAddr_sl (C:=cfg m) (t:=55) (n:=(↑i:Int)) hl (by kernel_rfl) (by omega) hc), .c 5 5 (hh (fl) (hp)), .m 5 7 e3, .w 4 1 IntKind.i64 ((↑i:Int) + 1) (wrap_i64' (by omega))] (by kernel_rfl) rfl,by assumption,by assumption⟩
abbrev tsEnd (o:AV):List TV:=[J,J,J,J,J, .v o,J]++List.replicate 20 J
theorem ts_x {m:Int} {fl i:Nat} {hp:List Blk} {l o:AV} {ls:List AV} (hl:IsSl 4 l ls) (hi:ls.length≤i∨6≤i) (hi2:i≤6):LoopI (cfg m) fl 19 (bodyAt (cfg m) 19 3) 3 ⟨tsSt l o i,hp⟩ (.exit 0) ⟨tsEnd o,hp⟩:=by
 by_cases h1:(↑i:Int) < (↑ls.length:Int)
 ·exact loopEndC (.exit 0) (St.mk ([J,J,J,J,J,TV.v o]++Jn 21) hp) [.m 3 2 (len_sl (C:=cfg m) (t:=55) (ts':=[]) (fl:=fl) (ar:=false) (hp:=hp) hl (by kernel_rfl)), .b 3 3 (decide_eq_true h1), .b 3 7 (decide_eq_false ((show ¬(↑i:Int) < 6 from (by omega))))] (by kernel_rfl) (fun h=>by cases h) rfl
 ·exact loopEndC (.exit 0) (St.mk ([J,J,J,J,J,TV.v o]++Jn 21) hp) [.m 3 2 (len_sl (C:=cfg m) (t:=55) (ts':=[]) (fl:=fl) (ar:=false) (hp:=hp) hl (by kernel_rfl)), .b 3 3 (decide_eq_false h1)] (by kernel_rfl) (fun h=>by cases h) rfl
theorem ts_n {m:Int} {fl:Nat} {hp hp':List Blk} {l o w:AV} (hlp:LoopI (cfg m) hp.length 19 (bodyAt (cfg m) 19 3) 3 ⟨tsSt l .nilS 0,hp⟩ (.exit 0) ⟨tsEnd o,hp'⟩) (hs:shutV hp' hp.length 100000 o=some w):evI (cfg m) fl 19 [l, .int .i64 6] hp=some (w,hp):=by
 exact evX1 (o) (hp') [.l 3 hlp] (by kernel_rfl) (tlP1 (by kernel_rfl) hs) rfl
abbrev akSt (l s o:AV) (i:Nat):List TV:=[J, .v (AI 4), .v (AI 0), .bx [l,s],J,J, .bx [.nilS, .nilS], .bx [o, .nilS], .v (AI i)]++List.replicate 56 J
theorem ak_i {m:Int} {fl b N i:Nat} {hp:List Blk} {s o:AV} {xs ms:List AV} {x y z n o' v':Bs} {q:Int} (hb:blkCells hp b=some (flat xs)) (ha:AggN 5 xs) (hv:xs[i]?=some (.agg [.str x, .str y, .str z, .bool true, .int .u8 q])) (hN:N=xs.length) (hN2:N < 10000000000000) (hi:i < N) (hi2:i < 4) (hh:∀ (fl:Nat) (hp:List Blk),evI (cfg m) fl 25 [.agg [.str x, .str y, .str z, .bool true, .int .u8 q]] hp=some (mA n o' v',hp)) (ho:Gr fl 3 hp o ms) (hlen:(ms.length + [mA n o' v'].length) * 48≤140737488355328) (hf:fl≤hp.length):∃ hp' g,LoopS (cfg m) fl 17 (bodyAt (cfg m) 17 3) 3 ⟨akSt (.arr 5 b 0 N) s o i,hp⟩ ⟨akSt (.arr 5 b 0 N) s (.lit 3 (.fam g 0) (ms++[mA n o' v'])) (i + 1),hp'⟩∧Gr fl 3 hp' (.lit 3 (.fam g 0) (ms++[mA n o' v'])) (ms++[mA n o' v'])∧FrC [] hp hp':=by
 obtain ⟨g1,hp'2,e3,h4,h5⟩:=(app_m (C:=cfg m) (y:=AV.lit 3 Own.exact [AV.agg [AV.str n,AV.str o',AV.str v']]) (t:=25) ho (by kernel_rfl) (by kernel_rfl) (by simp_all;done) hlen hf)
 exact ⟨hp'2,_,loopStepS (St.mk [J,TV.v (AI 4),TV.v (AI 0),TV.bx [AV.arr 5 b 0 N,s],J,J,TV.bx [AV.nilS,AV.nilS],TV.bx [AV.lit 3 (Own.fam g1 0) (ms++[AV.agg [AV.str n,AV.str o',AV.str v']]),AV.nilS],TV.v (AI ((↑i:Int) + 1)),J,J,J,J,J,J,J,J,J,J,J,J,J,J,J,J,J,J,J,J,J,J,J,J,J,J,J,J,J,J,J,J,J,J,J,J,J,J,J,J,J,J,J,J,J,J,J,J,J,J,J,J,J,J,J,J] hp'2) [.b 3 4 (decide_eq_true ((show (↑i:Int) < (↑N:Int) from (by omega)))), .b 3 8 (decide_eq_true ((show (↑i:Int) < 4 from (by omega)))), .a 5 5 (indexAddr_row (C:=cfg m) (t:=28) (sz:=5) (b:=b) (by kernel_rfl) hi), .m 5 6 (load_row (C:=cfg m) (t:=70) hb hv ha (by kernel_rfl)), .c 5 7 (hh (fl) (hp)), .m 5 9 e3, .w 4 1 IntKind.i64 ((↑i:Int) + 1) (wrap_i64' (by omega))] (by kernel_rfl) rfl,by assumption,by assumption⟩
abbrev akEnd (l s o:AV):List TV:=[J,J, .v (AI 0), .bx [l,s],J,J, .bx [.nilS, .nilS], .bx [o, .nilS],J]++List.replicate 56 J
theorem ak_x {m:Int} {fl b N i:Nat} {hp:List Blk} {s o:AV} (hi:N≤i∨4≤i) (hi2:i≤4):LoopI (cfg m) fl 17 (bodyAt (cfg m) 17 3) 3 ⟨akSt (.arr 5 b 0 N) s o i,hp⟩ (.exit 0) ⟨akEnd (.arr 5 b 0 N) s o,hp⟩:=by
 by_cases h1:(↑i:Int) < (↑N:Int)
 ·exact loopEndC (.exit 0) (St.mk ([J,J,TV.v (AI 0),TV.bx [AV.arr 5 b 0 N,s],J,J,TV.bx [AV.nilS,AV.nilS],TV.bx [o,AV.nilS]]++Jn 57) hp) [.b 3 4 (decide_eq_true h1), .b 3 8 (decide_eq_false ((show ¬(↑i:Int) < 4 from (by omega))))] (by kernel_rfl) (fun h=>by cases h) rfl
 ·exact loopEndC (.exit 0) (St.mk ([J,J,TV.v (AI 0),TV.bx [AV.arr 5 b 0 N,s],J,J,TV.bx [AV.nilS,AV.nilS],TV.bx [o,AV.nilS]]++Jn 57) hp) [.b 3 4 (decide_eq_false h1)] (by kernel_rfl) (fun h=>by cases h) rfl
theorem ak_z {m:Int} {fl:Nat} {hp:List Blk} {l s o:AV} (hl:IsSl 5 l []):LoopI (cfg m) fl 17 (bodyAt (cfg m) 17 3) 3 ⟨akSt l s o 0,hp⟩ (.exit 0) ⟨akEnd l s o,hp⟩:=by
 exact loopEndC (.exit 0) (St.mk ([J,J,TV.v (AI 0),TV.bx [l,s],J,J,TV.bx [AV.nilS,AV.nilS],TV.bx [o,AV.nilS]]++Jn 57) hp) [.m 3 3 (len_sl (C:=cfg m) (t:=28) (ts':=[]) (fl:=fl) (ar:=false) (hp:=hp) hl (by kernel_rfl))] (by kernel_rfl) (fun h=>by cases h) rfl
abbrev aySt (l s o:AV):List TV:=[J,J, .v (AI 0), .bx [l,s],J,J, .bx [.nilS, .nilS], .bx [o, .nilS],J, .v (AI 0)]++List.replicate 55 J
abbrev ayEnd (l s o:AV):List TV:=[J,J,J,J,J,J, .bx [.nilS, .nilS], .bx [o, .nilS],J,J]++List.replicate 55 J
theorem ay_x {m:Int} {fl:Nat} {hp:List Blk} {l s o:AV} {ss:List AV} (hl:IsSl 9 s ss):LoopI (cfg m) fl 17 (bodyAt (cfg m) 17 9) 9 ⟨aySt l s o,hp⟩ (.exit 2) ⟨ayEnd l s o,hp⟩:=by
 by_cases h1:0 < (↑ss.length:Int)
 ·exact loopEndC (.exit 2) (St.mk ([J,J,J,J,J,J,TV.bx [AV.nilS,AV.nilS],TV.bx [o,AV.nilS]]++Jn 57) hp) [.m 9 3 (len_sl (C:=cfg m) (t:=64) (ts':=[]) (fl:=fl) (ar:=false) (hp:=hp) hl (by kernel_rfl)), .b 9 4 (decide_eq_true h1)] (by kernel_rfl) (fun h=>by cases h) rfl
 ·exact loopEndC (.exit 2) (St.mk ([J,J,J,J,J,J,TV.bx [AV.nilS,AV.nilS],TV.bx [o,AV.nilS]]++Jn 57) hp) [.m 9 3 (len_sl (C:=cfg m) (t:=64) (ts':=[]) (fl:=fl) (ar:=false) (hp:=hp) hl (by kernel_rfl)), .b 9 4 (decide_eq_false h1)] (by kernel_rfl) (fun h=>by cases h) rfl
theorem ak_1 {m:Int} {fl b N:Nat} {hp hp':List Blk} {s w:AV} {ow:Own} {ms ss:List AV} (hs:IsSl 9 s ss) (hlp:LoopI (cfg m) hp.length 17 (bodyAt (cfg m) 17 3) 3 ⟨akSt (.arr 5 b 0 N) s .nilS 0,hp⟩ (.exit 0) ⟨akEnd (.arr 5 b 0 N) s (.lit 3 ow ms),hp'⟩) (h0:0 < ms.length) (hw:shutV hp' hp.length 100000 (qyA (.lit 3 ow ms))=some w):evI (cfg m) fl 17 [.agg [.arr 5 b 0 N,s], .int .i64 4, .int .i64 0] hp=some (w,hp):=by
 exact evX (AV.agg [AV.lit 3 ow ms,AV.nilS]) (hp') [.l 3 hlp, .b 6 3 (beq_false_of_ne ((show ¬(↑ms.length:Int)=0 from (by omega)))), .l 9 (ay_x (m:=m) (fl:=hp.length) (hp:=hp') (l:=AV.arr 5 b 0 N) (o:=AV.lit 3 ow ms) hs)] (by kernel_rfl) (tlP (by kernel_rfl) rfl hw) rfl
theorem ak_0 {m:Int} {fl:Nat} {hp:List Blk} {l s:AV} {ss:List AV} (hs:IsSl 9 s ss) (hl:IsSl 5 l []) (hlp:∀ fl,LoopI (cfg m) fl 17 (bodyAt (cfg m) 17 3) 3 ⟨akSt l s .nilS 0,hp⟩ (.exit 0) ⟨akEnd l s .nilS,hp⟩):evI (cfg m) fl 17 [.agg [l,s], .int .i64 4, .int .i64 0] hp=some (qyA (.lit 3 .exact [mA [97,112,112] [33,61] [110,111,110,101]]),hp):=by
 exact evX (AV.agg [AV.lit 3 Own.exact [AV.agg [AV.str [97,112,112],AV.str [33,61],AV.str [110,111,110,101]]],AV.nilS]) (hp) [.l 3 (hlp (hp.length)), .l 9 (ay_x (m:=m) (fl:=hp.length) (hp:=hp) (l:=l) (o:=AV.lit 3 Own.exact [AV.agg [AV.str [97,112,112],AV.str [33,61],AV.str [110,111,110,101]]]) hs)] (by kernel_rfl) (tlP (by kernel_rfl) rfl (shutT (v:=AV.agg [AV.lit 3 Own.exact [AV.agg [AV.str [97,112,112],AV.str [33,61],AV.str [110,111,110,101]]],AV.nilS]) (v':=AV.agg [AV.lit 3 Own.exact [AV.agg [AV.str [97,112,112],AV.str [33,61],AV.str [110,111,110,101]]],AV.nilS]) (by kernel_rfl))) rfl
def LenH (m:Int) (x:AV) (n:Nat):Prop:=∀ fl ar hp ts,builtinE (cfg m) fl ar ⟨ts,hp⟩ .len [28] [x]=some ⟨.v (.int .i64 (n:Int)),ts,hp, .z⟩
theorem len_lenH {m:Int} {x:AV} {n:Nat} (h:LenH m x n) {fl:Nat} {ar:Bool} {hp:List Blk}:∀ ts,builtinE (cfg m) fl ar ⟨ts,hp⟩ .len [28] [x]=some ⟨.v (.int .i64 (n:Int)),ts,hp, .z⟩:=fun ts=>h fl ar hp ts
theorem app_h5 {C:Cfg} {fl N:Nat} {hp:List Blk} {y:AV} {ws:List AV} {t:TypeId} (hy:elems hp 5 y=some ws) (ha:AggN 5 ws) (hN:N=ws.length) (hz:ws≠[]) (hl:ws.length * 56≤140737488355328) (ht:elT C t 5 56=true) :
  ∃ hp' fp,(∀ ts,builtinE C fl true ⟨ts,hp⟩ .append [t,t] [.nilS,y]=some ⟨.v (.arr 5 hp.length 0 N),ts,hp',fp⟩)∧blkCells hp' hp.length=some (flat ws)∧PreN hp.length hp hp':=by
 subst hN
 obtain ⟨e,a,b0,c,d,ei,g1,g2,g3,g4,h5,h6⟩:=elT_ty ht
 have e5:(5==0)=false:=rfl
 have k6:(ei.bytes==0)=false:=by rw [g4];rfl
 have hk:(ws.length==0)=false:=by simpa using hz
 have hl':decide (ws.length * ei.bytes≤140737488355328)=true:=decide_eq_true (by rw [g4];exact hl)
 have n1:isSlc .nilS=true:=rfl
 have he:E.elems hp 5 .nilS=some []:=rfl
 refine ⟨hp++[.cells (flat ws)],bif isArr .nilS||isArr y then .hw else .fw,fun ts => ?_,blk_last, .app (Nat.le_refl _)⟩
 simp only [builtinE,appendE,appElems,g1,g2,g3,he,hy,List.length_nil,Nat.zero_add,hl',e5,k6,n1,hk,Bool.not_true,Bool.or_self,cond_false rfl,cond_true rfl,List.nil_append]
theorem ty4m {m:Int}:(cfg m).ty 4=some ⟨.bool,1,1,[.bool false],true⟩:=by kernel_rfl
theorem splice_3 {l:List AV} {o:Nat} {x y z w q c:AV} {r:List AV} (h:l.drop o=x::y::z::w::q::r):splice l (o + 3) [c]=splice l o [x,y,z,c,q]:=by
 have hl:o + 5≤l.length:=by have:=congrArg List.length h;simp at this;omega
 have e1:l.drop (o + 3 + [c].length)=q::r:=by
  rw [show o + 3 + [c].length=o + 4 from rfl,← List.drop_drop,h];rfl
 have e2:l.drop (o + [x,y,z,c,q].length)=r:=by
  rw [show o + [x,y,z,c,q].length=o + 5 from rfl,← List.drop_drop,h];rfl
 rw [splice_eq _ _ _ (by omega),splice_eq _ _ _ (by omega),List.take_add,h,e1,e2]
 simp
theorem store_own {m:Int} {b i fl N:Nat} {hp:List Blk} {xs:List AV} {x y z w q:AV} (h:blkCells hp b=some (flat xs)) (ha:AggN 5 xs) (hN:N=xs.length) (hv:xs[i]?=some (.agg [x,y,z,w,q])) (hf:fl≤b):∀ ts,storeAt (cfg m) fl ⟨ts,hp⟩ 4 (.v (.ptr b (i * 5 + 3))) (.bool true)=some ⟨.sk,ts,setAt hp b (.cells (flat (xs.set i (.agg [x,y,z, .bool true,q])))), .hw⟩:=by
 intro ts
 have hi:i < xs.length:=(List.getElem?_eq_some_iff.1 hv).1
 have hd:(flat xs).drop (i * 5)=x::y::z::w::q::flat (xs.drop (i + 1)):=by
  rw [flatN_drop i ha,List.drop_eq_getElem_cons hi,(List.getElem?_eq_some_iff.1 hv).2];rfl
 have hs:=(splice_3 (c := .bool true) hd).trans (flatN_set (c:=[x,y,z, .bool true,q]) rfl i ha hi)
 have hl:=flat_len ha
 have e1:decide (i * 5 + 3 + 1≤(flat xs).length)=true:=decide_eq_true (by rw [hl];omega)
 have e2:decide (fl≤b)=true:=decide_eq_true hf
 unfold storeAt
 rw [ty4m]
 have c0:((AV.cells (.bool true)).length==1)=true:=rfl
 have c1:(AV.noTup (.bool true))=true:=rfl
 have c2:AV.cells (.bool true)=[.bool true]:=rfl
 simp only [h,e1,e2,c1,c2,hs]
 rfl
theorem moP {b:Nat} {hp hp1:List Blk} {u v:List AV} (h4:blkCells hp1 b=some u) (h5:PreN b hp hp1):blkCells (setAt hp1 b (.cells v)) b=some v∧PreN b hp (setAt hp1 b (.cells v)):=⟨blk_set (blk_lt h4),h5.trans (PreN.set (Nat.le_refl _))⟩
abbrev moSt (lm ls lt:AV) (n:Bs) (o:AV) (A B:Int) (i:Nat):List TV:=[J,J, .v lt,J, .bx [lm,ls],J,J, .v (.bool true), .bx [.str n,o, .int .i64 A, .int .i64 B], .v (AI i)]++List.replicate 130 J
theorem mo_i {m:Int} {N i:Nat} {hp:List Blk} {lm ls lt o:AV} {n:Bs} {A B:Int} {xs:List AV} {x y z w q:AV} (hlen:LenH m lm N) (hy:elems hp 5 lm=some xs) (ha:AggN 5 xs) (hN:N=xs.length) (hz:xs≠[]) (hl:xs.length * 56≤140737488355328) (hv:xs[i]?=some (.agg [x,y,z,w,q])) (hi:i < N) (hN2:N < 10000000000000):∃ hp',LoopS (cfg m) 0 7 (bodyAt (cfg m) 7 7) 7 ⟨moSt lm ls lt n o A B i,hp⟩ ⟨moSt (.arr 5 hp.length 0 N) ls lt n o A B (i + 1),hp'⟩∧blkCells hp' hp.length=some (flat (xs.set i (.agg [x,y,z, .bool true,q])))∧PreN hp.length hp hp':=by
 obtain ⟨hp'1,fp2,e3,h4,h5⟩:=(app_h5 (C:=cfg m) (fl:=0) (t:=28) hy ha hN hz hl (by kernel_rfl))
 exact ⟨setAt hp'1 hp.length (BC (flat (xs.set i (AV.agg [x,y,z,AV.bool true,q])))),loopStepS (St.mk ([J,J,TV.v lt,J,TV.bx [AV.arr 5 hp.length 0 N,ls],J,J,TV.v (AV.bool true),TV.bx [AV.str n,o,AI A,AI B],TV.v (AI ((↑i:Int) + 1))]++Jn 130) (setAt hp'1 hp.length (BC (flat (xs.set i (AV.agg [x,y,z,AV.bool true,q])))))) [.m 7 3 (len_lenH (m:=m) hlen (fl:=0) (ar:=true) (hp:=hp)), .b 7 4 (decide_eq_true ((show (↑i:Int) < (↑N:Int) from (by omega)))), .m 9 2 e3, .a 10 3 (indexAddr_row (C:=cfg m) (t:=28) (sz:=5) (b:=hp.length) (by kernel_rfl) hi), .t 10 5 (store_own (m:=m) (fl:=0) h4 ha hN hv (by omega)), .w 8 1 IntKind.i64 ((↑i:Int) + 1) (wrap_i64' (by omega))] (by kernel_rfl) rfl,moP (by assumption) (by assumption)⟩
abbrev moEnd (lm ls lt:AV) (n:Bs) (o:AV) (A B:Int):List TV:=[J,J, .v lt,J, .bx [lm,ls],J,J, .v (.bool true), .bx [.str n,o, .int .i64 A, .int .i64 B],J]++List.replicate 130 J
theorem mo_x {m:Int} {N:Nat} {hp:List Blk} {lm ls lt o:AV} {n:Bs} {A B:Int} (hlen:LenH m lm N):LoopI (cfg m) 0 7 (bodyAt (cfg m) 7 7) 7 ⟨moSt lm ls lt n o A B N,hp⟩ (.exit 0) ⟨moEnd lm ls lt n o A B,hp⟩:=by
 exact loopEndC (.exit 0) (St.mk ([J,J,TV.v lt,J,TV.bx [lm,ls],J,J,TV.v (AV.bool true),TV.bx [AV.str n,o,AI A,AI B]]++Jn 131) hp) [.m 7 3 (len_lenH (m:=m) hlen (fl:=0) (ar:=true) (hp:=hp)), .b 7 4 (decide_eq_false ((show ¬(↑N:Int) < (↑N:Int) from (by omega))))] (by kernel_rfl) (fun h=>by cases h) rfl
theorem mu_tt {m:Int} {s0 n:Bs} {l0 l lm lm' ls lt tv lv o:AV} {a0 b0 k A B:Int} {w:Bool} {owq owa owb:Own} {xq xa xb:List AV} {a1 a2 a3 ko:Nat} {hp hp1 hp2 hp3 hp4:List Blk} (he:evI (cfg m) 0 8 [] []=some (.bool true,[])) (hr:evI (cfg m) 0 9 [.agg [.str s0,l0, .int .i64 a0, .int .i64 b0, .bool true, .int .u8 k,l]] []=some (plA n o A B,hp)) (hlp:LoopI (cfg m) 0 7 (bodyAt (cfg m) 7 7) 7 ⟨moSt lm ls lt n o A B 0,hp⟩ (.exit 0) ⟨moEnd lm' ls lt n o A B,hp1⟩) (hq:∀ fl,evI (cfg m) fl 17 [.agg [lm',ls], .int .i64 4, .int .i64 0] hp1=some (qyA (.lit 3 owq xq),hp1)) (ht:∀ fl,evI (cfg m) fl 19 [lt, .int .i64 6] hp1=some (tv,hp1)) (hof:∀ fl,evI (cfg m) fl 18 [tv] hp1=some (lv,hp1)) (e1:∀ fl,evI (cfg m) fl 20 [plA n o A B,qyA (.lit 3 owq xq)] hp1=some (.tup [qyA (.lit 3 owa xa), .int .i64 0],hp1)) (e2:∀ fl,evI (cfg m) fl 20 [plA n o A B,qyA (.lit 3 owa xa)] hp1=some (.tup [qyA (.lit 3 owb xb), .int .i64 0],hp1)) (v1:∀ fl,evI (cfg m) fl 21 [.lit 3 owa xa] hp1=some (.tup [.ptr a1 0, .int .i64 0],hp2)) (v2:∀ fl,evI (cfg m) fl 21 [o] hp2=some (.tup [.ptr a2 0, .int .i64 0],hp3)) (v3:∀ fl,evI (cfg m) fl 21 [.lit 3 owq xq] hp3=some (.tup [.ptr a3 0, .int .i64 0],hp4)) (t1:∀ fl,evI (cfg m) fl 22 [.ptr a1 0,lv] hp4=some (.bool true,hp4)) (t2:∀ fl,evI (cfg m) fl 22 [.ptr a2 0,lv] hp4=some (.bool true,hp4)) (t3:∀ fl,evI (cfg m) fl 22 [.ptr a3 0,lv] hp4=some (.bool true,hp4)) (sm:∀ fl,evI (cfg m) fl 23 [qyA (.lit 3 owa xa),qyA (.lit 3 owb xb)] hp4=some (.bool true,hp4)) (lo:LenS m o ko) (hk:xa.length≤ko + xq.length) (hk2:ko≤1000) (hk3:xq.length≤1000):evI (cfg m) 0 7 [.agg [.str s0,l0, .int .i64 a0, .int .i64 b0, .bool w, .int .u8 k,l], .agg [lm,ls],lt] []=some (.bool true,[]):=by
 exact evX (AV.bool true) (hp4) [.c 1 0 he, .c 5 1 hr, .l 7 hlp, .c 11 1 (hq (0)), .c 12 1 (ht (0)), .c 12 2 (hof (0)), .c 13 2 (e1 (0)), .c 14 2 (e2 (0)), .c 17 2 (v1 (0)), .c 18 2 (v2 (0)), .c 19 2 (v3 (0)), .c 22 4 (t1 (0)), .c 22 7 (t2 (0)), .c 22 11 (t3 (0)), .c 22 18 (sm (0)), .m 22 26 (len_lenS (m:=m) lo (fl:=0) (ar:=true) (hp:=hp4)), .w 22 30 IntKind.i64 ((↑ko:Int) + (↑xq.length:Int)) (wrap_i64' (by omega)), .b 22 31 (decide_eq_true ((show (↑xa.length:Int)≤(↑ko:Int) + (↑xq.length:Int) from (by omega))))] (by kernel_rfl) (tlP (by kernel_rfl) rfl (shutT (v:=AV.bool true) (v':=AV.bool true) (by kernel_rfl))) rfl
theorem mu_tf {m:Int} {s0 n:Bs} {l0 l lm lm' ls lt tv lv o:AV} {a0 b0 k A B:Int} {w:Bool} {owq owa owb:Own} {xq xa xb:List AV} {a1 a2 a3 ko:Nat} {hp hp1 hp2 hp3 hp4:List Blk} (he:evI (cfg m) 0 8 [] []=some (.bool true,[])) (hr:evI (cfg m) 0 9 [.agg [.str s0,l0, .int .i64 a0, .int .i64 b0, .bool true, .int .u8 k,l]] []=some (plA n o A B,hp)) (hlp:LoopI (cfg m) 0 7 (bodyAt (cfg m) 7 7) 7 ⟨moSt lm ls lt n o A B 0,hp⟩ (.exit 0) ⟨moEnd lm' ls lt n o A B,hp1⟩) (hq:∀ fl,evI (cfg m) fl 17 [.agg [lm',ls], .int .i64 4, .int .i64 0] hp1=some (qyA (.lit 3 owq xq),hp1)) (ht:∀ fl,evI (cfg m) fl 19 [lt, .int .i64 6] hp1=some (tv,hp1)) (hof:∀ fl,evI (cfg m) fl 18 [tv] hp1=some (lv,hp1)) (e1:∀ fl,evI (cfg m) fl 20 [plA n o A B,qyA (.lit 3 owq xq)] hp1=some (.tup [qyA (.lit 3 owa xa), .int .i64 0],hp1)) (e2:∀ fl,evI (cfg m) fl 20 [plA n o A B,qyA (.lit 3 owa xa)] hp1=some (.tup [qyA (.lit 3 owb xb), .int .i64 0],hp1)) (v1:∀ fl,evI (cfg m) fl 21 [.lit 3 owa xa] hp1=some (.tup [.ptr a1 0, .int .i64 0],hp2)) (v2:∀ fl,evI (cfg m) fl 21 [o] hp2=some (.tup [.ptr a2 0, .int .i64 0],hp3)) (v3:∀ fl,evI (cfg m) fl 21 [.lit 3 owq xq] hp3=some (.tup [.ptr a3 0, .int .i64 0],hp4)) (t1:∀ fl,evI (cfg m) fl 22 [.ptr a1 0,lv] hp4=some (.bool false,hp4)) (t2:∀ fl,evI (cfg m) fl 22 [.ptr a2 0,lv] hp4=some (.bool true,hp4)) (t3:∀ fl,evI (cfg m) fl 22 [.ptr a3 0,lv] hp4=some (.bool false,hp4)) (sm:∀ fl,evI (cfg m) fl 23 [qyA (.lit 3 owa xa),qyA (.lit 3 owb xb)] hp4=some (.bool true,hp4)) (lo:LenS m o ko) (hk:xa.length≤ko + xq.length) (hk2:ko≤1000) (hk3:xq.length≤1000):evI (cfg m) 0 7 [.agg [.str s0,l0, .int .i64 a0, .int .i64 b0, .bool w, .int .u8 k,l], .agg [lm,ls],lt] []=some (.bool true,[]):=by
 exact evX (AV.bool true) (hp4) [.c 1 0 he, .c 5 1 hr, .l 7 hlp, .c 11 1 (hq (0)), .c 12 1 (ht (0)), .c 12 2 (hof (0)), .c 13 2 (e1 (0)), .c 14 2 (e2 (0)), .c 17 2 (v1 (0)), .c 18 2 (v2 (0)), .c 19 2 (v3 (0)), .c 22 4 (t1 (0)), .c 22 7 (t2 (0)), .c 22 11 (t3 (0)), .c 22 18 (sm (0)), .m 22 26 (len_lenS (m:=m) lo (fl:=0) (ar:=true) (hp:=hp4)), .w 22 30 IntKind.i64 ((↑ko:Int) + (↑xq.length:Int)) (wrap_i64' (by omega)), .b 22 31 (decide_eq_true ((show (↑xa.length:Int)≤(↑ko:Int) + (↑xq.length:Int) from (by omega))))] (by kernel_rfl) (tlP (by kernel_rfl) rfl (shutT (v:=AV.bool true) (v':=AV.bool true) (by kernel_rfl))) rfl
theorem mu_f {m:Int} {s0 n:Bs} {l0 l lm lm' ls lt tv lv o:AV} {a0 b0 k A B:Int} {w:Bool} {owq owa owb:Own} {xq xa xb:List AV} {a1 a2 a3 ko:Nat} {hp hp1 hp2 hp3 hp4:List Blk} (he:evI (cfg m) 0 8 [] []=some (.bool true,[])) (hr:evI (cfg m) 0 9 [.agg [.str s0,l0, .int .i64 a0, .int .i64 b0, .bool true, .int .u8 k,l]] []=some (plA n o A B,hp)) (hlp:LoopI (cfg m) 0 7 (bodyAt (cfg m) 7 7) 7 ⟨moSt lm ls lt n o A B 0,hp⟩ (.exit 0) ⟨moEnd lm' ls lt n o A B,hp1⟩) (hq:∀ fl,evI (cfg m) fl 17 [.agg [lm',ls], .int .i64 4, .int .i64 0] hp1=some (qyA (.lit 3 owq xq),hp1)) (ht:∀ fl,evI (cfg m) fl 19 [lt, .int .i64 6] hp1=some (tv,hp1)) (hof:∀ fl,evI (cfg m) fl 18 [tv] hp1=some (lv,hp1)) (e1:∀ fl,evI (cfg m) fl 20 [plA n o A B,qyA (.lit 3 owq xq)] hp1=some (.tup [qyA (.lit 3 owa xa), .int .i64 0],hp1)) (e2:∀ fl,evI (cfg m) fl 20 [plA n o A B,qyA (.lit 3 owa xa)] hp1=some (.tup [qyA (.lit 3 owb xb), .int .i64 0],hp1)) (v1:∀ fl,evI (cfg m) fl 21 [.lit 3 owa xa] hp1=some (.tup [.ptr a1 0, .int .i64 0],hp2)) (v2:∀ fl,evI (cfg m) fl 21 [o] hp2=some (.tup [.ptr a2 0, .int .i64 0],hp3)) (v3:∀ fl,evI (cfg m) fl 21 [.lit 3 owq xq] hp3=some (.tup [.ptr a3 0, .int .i64 0],hp4)) (t1:∀ fl,evI (cfg m) fl 22 [.ptr a1 0,lv] hp4=some (.bool false,hp4)) (t2:∀ fl,evI (cfg m) fl 22 [.ptr a2 0,lv] hp4=some (.bool false,hp4)) (sm:∀ fl,evI (cfg m) fl 23 [qyA (.lit 3 owa xa),qyA (.lit 3 owb xb)] hp4=some (.bool true,hp4)) (lo:LenS m o ko) (hk:xa.length≤ko + xq.length) (hk2:ko≤1000) (hk3:xq.length≤1000):evI (cfg m) 0 7 [.agg [.str s0,l0, .int .i64 a0, .int .i64 b0, .bool w, .int .u8 k,l], .agg [lm,ls],lt] []=some (.bool true,[]):=by
 exact evX (AV.bool true) (hp4) [.c 1 0 he, .c 5 1 hr, .l 7 hlp, .c 11 1 (hq (0)), .c 12 1 (ht (0)), .c 12 2 (hof (0)), .c 13 2 (e1 (0)), .c 14 2 (e2 (0)), .c 17 2 (v1 (0)), .c 18 2 (v2 (0)), .c 19 2 (v3 (0)), .c 22 4 (t1 (0)), .c 22 7 (t2 (0)), .c 22 18 (sm (0)), .m 22 26 (len_lenS (m:=m) lo (fl:=0) (ar:=true) (hp:=hp4)), .w 22 30 IntKind.i64 ((↑ko:Int) + (↑xq.length:Int)) (wrap_i64' (by omega)), .b 22 31 (decide_eq_true ((show (↑xa.length:Int)≤(↑ko:Int) + (↑xq.length:Int) from (by omega))))] (by kernel_rfl) (tlP (by kernel_rfl) rfl (shutT (v:=AV.bool true) (v':=AV.bool true) (by kernel_rfl))) rfl
def Good (t:Mt):Prop:=∃ r,mOf t.1 t.2.1 t.2.2=some r
theorem good_all:(nmS.all fun x=>opS.all fun y=>hvS.all fun z=>(mOf x y z).isSome)=true:=by kernel_rfl
theorem good_of {x y z:Bs} (hx:x ∈ nmS) (hy:y ∈ opS) (hz:z ∈ hvS):Good (x,y,z) :=
 Option.isSome_iff_exists.1 (List.all_eq_true.1 (List.all_eq_true.1 (List.all_eq_true.1 good_all x hx) y hy) z hz)
theorem good_0:Good ([97,112,112],[33,61],[110,111,110,101]) :=
 Option.isSome_iff_exists.1 (show (mOf [97,112,112] [33,61] [110,111,110,101]).isSome=true by kernel_rfl)
theorem ha_good {m:Int} {q:Int} {a b c:Bs} (h:0≤q):∃ t:Mt,Good t∧∀ (fl:Nat) (hp:List Blk),evI (cfg m) fl 25 [.agg [.str a, .str b, .str c, .bool true, .int .u8 q]] hp=some (mtA t,hp):=by
 obtain ⟨i,h1,h2⟩:=tmod_u 3 h (by decide)
 obtain ⟨j,h3,h4⟩:=tmod_u 4 (wrap_u (q:=Int.tdiv q 3)) (by decide)
 obtain ⟨k,h5,h6⟩:=tmod_u 8 (wrap_u (q:=Int.tdiv q 12)) (by decide)
 have hz:∀ (fl:Nat) (hp:List Blk),evI (cfg m) fl 51 [.int .u8 (IntKind.u8.wrap (Int.tdiv q 12))] hp=some (.str hvS[k],hp):=fun fl hp =>
  va_w h5 h6 (show (hvS.map AV.str)[k]?=some (AV.str hvS[k]) by rw [List.getElem?_map,List.getElem?_eq_getElem h6];rfl)
 have hx:(nmS.map AV.str)[i]?=some (AV.str nmS[i]):=by rw [List.getElem?_map,List.getElem?_eq_getElem h2];rfl
 have hy:(opS.map AV.str)[j]?=some (AV.str opS[j]):=by rw [List.getElem?_map,List.getElem?_eq_getElem h4];rfl
 exact ⟨(nmS[i],opS[j],hvS[k]),good_of (List.getElem_mem h2) (List.getElem_mem h4) (List.getElem_mem h6),fun fl hp=>ha_w h1 h2 hx h3 h4 hy hz⟩
theorem MsV.len {m:Int} {o:AV} {ps:List Mt} (h:MsV o ps):LenS m o ps.length:=by
 have t25:(cfg m).ty 25=some ⟨.slice 68,1,24,[.nilS],false⟩:=by kernel_rfl
 rcases h with ⟨rfl,rfl⟩ | ⟨ow,rfl,_⟩
 ·exact fun fl ar hp ts=>by simp only [builtinE,lenE,t25];rfl
 ·have:=(lenS_lit (m:=m) (ow:=ow) (xs:=ps.map mtA)).1
  rwa [List.length_map] at this
theorem MsV.isl {o:AV} {ps:List Mt} (h:MsV o ps):IsSl 3 o (ps.map mtA):=by
 rcases h with ⟨rfl,rfl⟩ | ⟨ow,rfl,_⟩
 ·exact .nil _
 ·exact .lit _ _ _
theorem ru_good {m:Int} {s0 n:Bs} {l0 l:AV} {a0 b0 k A B:Int} {hs:List AV} (hl:IsSl 5 l hs) (hh:Hs hs):∀ (d i:Nat) (hp:List Blk) (o:AV) (ms:List Mt),d + i=2→Gr 0 3 hp o (ms.map mtA)→MsV o ms→ms.length=i→(∀ t ∈ ms,Good t) →
  ∃ o' hp' ts,LoopI (cfg m) 0 9 (bodyAt (cfg m) 9 8) 8 ⟨ruSt (ruB s0 l0 a0 b0 k l) n o A B i,hp⟩ (.exit 0) ⟨ruEnd n o' A B,hp'⟩∧MsV o' ts∧ts.length≤2∧∀ t ∈ ts,Good t
 | 0,i,hp,o,ms,hd,ho,hv,hm,hg=>⟨o,hp,ms,ru_x hl (by omega) (by omega),hv,by omega,hg⟩
 | d + 1,i,hp,o,ms,hd,ho,hv,hm,hg=>by
  rcases Nat.lt_or_ge i hs.length with hi | hi
  ·obtain ⟨a,b,c,w,q,he,hq⟩:=hh hs[i] (List.getElem_mem hi)
   obtain ⟨t,ht,hw⟩:=ha_good (m:=m) (a:=a) (b:=b) (c:=c) hq
   obtain ⟨hp',g,h1,h2,h3⟩:=ru_i (m:=m) (s0:=s0) (n:=n) (l0:=l0) (a0:=a0) (b0:=b0) (k:=k) (A:=A) (B:=B) hl (by rw [List.getElem?_eq_getElem hi,he]) hi (by omega) hw ho (by simp only [List.length_cons,List.length_nil,List.length_map];omega) (Nat.zero_le _)
   have e:ms.map mtA++[mtA t]=(ms++[t]).map mtA:=by simp
   rw [e] at h1 h2
   obtain ⟨o',hp'',ts,h4,h5⟩:=ru_good hl hh d (i + 1) hp' _ (ms++[t]) (by omega) h2 (.inr ⟨_,rfl,by simp⟩) (by simp [hm]) (fun u hu=>by
    rcases List.mem_append.1 hu with hu | hu
    ·exact hg u hu
    ·obtain rfl:u=t:=by simpa using hu
     exact ht)
   exact ⟨o',hp'',ts,h1 _ _ h4,h5⟩
  ·exact ⟨o,hp,ms,ru_x hl (.inl hi) (by omega),hv,by omega,hg⟩
theorem rule_good {m:Int} {s0:Bs} {l0 l:AV} {a0 b0 k:Int} {hs:List AV} (hl:IsSl 5 l hs) (hh:Hs hs) (hk:0≤k):∃ n o A B hp' ts,evI (cfg m) 0 9 [.agg [.str s0,l0, .int .i64 a0, .int .i64 b0, .bool true, .int .u8 k,l]] []=some (plA n o A B,hp')∧MsV o ts∧ts.length≤2∧∀ t ∈ ts,Good t:=by
 obtain ⟨i,h1,h2⟩:=tmod_u 3 hk (by decide)
 have hn:(tnS.map AV.str)[i]?=some (AV.str tnS[i]):=by rw [List.getElem?_map,List.getElem?_eq_getElem h2];rfl
 by_cases h:k≥200
 ·obtain ⟨o',hp',ts,h4,h5⟩:=ru_good (m:=m) (s0:=s0) (n:=tnS[i]) (l0:=l0) (a0:=a0) (b0:=b0) (k:=k) (A:=1000) (B:=1099511627776) hl hh 2 0 [] .nilS [] rfl (.nil _ _ _) (.inl ⟨rfl,rfl⟩) rfl (by simp)
  exact ⟨_,_,_,_,_,ts,ru_hi h h1 h2 hn h4,h5⟩
 ·obtain ⟨o',hp',ts,h4,h5⟩:=ru_good (m:=m) (s0:=s0) (n:=tnS[i]) (l0:=l0) (a0:=a0) (b0:=b0) (k:=k) (A:=IntKind.i64.wrap (Int.tmod (IntKind.u8.wrap (Int.tdiv k 3)) 30)) (B:=IntKind.i64.wrap (IntKind.u8.wrap (Int.tdiv k 2))) hl hh 2 0 [] .nilS [] rfl (.nil _ _ _) (.inl ⟨rfl,rfl⟩) rfl (by simp)
  exact ⟨_,_,_,_,_,ts,ru_lo h h1 h2 hn h4,h5⟩
def HsO (xs:List AV):Prop:=∀ x ∈ xs,∃ (a b c:Bs) (q:Int),x = .agg [.str a, .str b, .str c, .bool true, .int .u8 q]∧0≤q
theorem ask_loop {m:Int} {fl b N:Nat} {s:AV} {xs:List AV} (ha:AggN 5 xs) (hN:N=xs.length) (hN2:N < 10000000000000) (hh:HsO xs):∀ (d i:Nat) (hp:List Blk) (o:AV) (ms:List Mt),d + i=4→blkCells hp b=some (flat xs)→Gr fl 3 hp o (ms.map mtA)→ms.length=i→(0 < i→∃ g,o = .lit 3 (.fam g 0) (ms.map mtA)∧fl≤g)→i≤N→(∀ t ∈ ms,Good t)→fl≤hp.length→0 < N →
  ∃ (g:Nat) (hp':List Blk) (ts:List Mt),LoopI (cfg m) fl 17 (bodyAt (cfg m) 17 3) 3 ⟨akSt (.arr 5 b 0 N) s o i,hp⟩ (.exit 0) ⟨akEnd (.arr 5 b 0 N) s (.lit 3 (.fam g 0) (ts.map mtA)),hp'⟩∧fl≤g∧0 < ts.length∧ts.length≤4∧∀ t ∈ ts,Good t
 | 0,i,hp,o,ms,hd,hb,ho,hm,hv,hiN,hg,hf,h0=>by
  obtain ⟨g,rfl,g2⟩:=hv (by omega)
  exact ⟨g,hp,ms,ak_x (by omega) (by omega),g2,by omega,by omega,hg⟩
 | d + 1,i,hp,o,ms,hd,hb,ho,hm,hv,hiN,hg,hf,h0=>by
  rcases Nat.lt_or_ge i N with hi | hi
  ·obtain ⟨x,y,z,q,he,hq⟩:=hh xs[i] (List.getElem_mem (by omega))
   obtain ⟨t,ht,hw⟩:=ha_good (m:=m) (a:=x) (b:=y) (c:=z) hq
   obtain ⟨hp',g,h1,h2,h3⟩:=ak_i (m:=m) (fl:=fl) (s:=s) hb ha (by rw [List.getElem?_eq_getElem (by omega),he]) hN hN2 hi (by omega) hw ho (by simp only [List.length_cons,List.length_nil,List.length_map];omega) hf
   have e:ms.map mtA++[mtA t]=(ms++[t]).map mtA:=by simp
   rw [e] at h1 h2
   have hgl:fl≤g:=by
    rcases h2 with ⟨h,_⟩ | ⟨g',h,_,h'⟩
    ·cases h
    ·cases h;exact h'
   obtain ⟨g',hp'',ts,h4,h5⟩:=ask_loop ha hN hN2 hh d (i + 1) hp' _ (ms++[t]) (by omega) (h3.2 _ _ (by simp) hb) h2 (by simp [hm]) (fun _=>⟨g,rfl,hgl⟩) (by omega) (fun u hu=>by
    rcases List.mem_append.1 hu with hu | hu
    ·exact hg u hu
    ·obtain rfl:u=t:=by simpa using hu
     exact ht) (Nat.le_trans hf h3.1) h0
   exact ⟨g',hp'',ts,h1 _ _ h4,h5⟩
  ·obtain ⟨g,rfl,g2⟩:=hv (by omega)
   exact ⟨g,hp,ms,ak_x (.inl hi) (by omega),g2,by omega,by omega,hg⟩
theorem mapO_m {hp:List Blk} {k d:Nat}:∀ ts:List Mt,mapO (shutV hp k (d + 3)) (ts.map mtA)=some (ts.map mtA)
 | []=>rfl
 | t::ts=>by simp only [List.map_cons,mapO,shut_m,mapO_m ts]
theorem shut_q {hp:List Blk} {k d g:Nat} {ts:List Mt} (hg:k≤g):shutV hp k (d + 5) (qyA (.lit 3 (.fam g 0) (ts.map mtA)))=some (qyA (.lit 3 .sealed (ts.map mtA))):=by
 have n1:shutV hp k (d + 4) .nilS=some .nilS:=rfl
 have e0:decide (g < k)=false:=decide_eq_false (by omega)
 have e1:shutV hp k (d + 4) (.lit 3 (.fam g 0) (ts.map mtA))=some (.lit 3 .sealed (ts.map mtA)):=by
  rw [shutV]
  simp only [mapO_m,e0,cond_false rfl]
 show (mapO (shutV hp k (d + 4)) [.lit 3 (.fam g 0) (ts.map mtA), .nilS]).map AV.agg=_
 simp only [mapO,e1,n1,Option.map]
theorem ask_ok {m:Int} {b N:Nat} {s:AV} {xs ss:List AV} {hp:List Blk} (hs:IsSl 9 s ss) (hb:blkCells hp b=some (flat xs)) (ha:AggN 5 xs) (hN:N=xs.length) (hN2:N < 10000000000000) (hh:HsO xs) (h0:0 < N):∃ ts:List Mt,(∀ fl,evI (cfg m) fl 17 [.agg [.arr 5 b 0 N,s], .int .i64 4, .int .i64 0] hp=some (qyA (.lit 3 .sealed (ts.map mtA)),hp))∧ts≠[]∧ts.length≤4∧∀ t ∈ ts,Good t:=by
 obtain ⟨g,hp',ts,h1,h2,h3,h4,h5⟩:=ask_loop (m:=m) (fl:=hp.length) (s:=s) ha hN hN2 hh 4 0 hp .nilS [] rfl hb (.nil _ _ _) rfl (by omega) (by omega) (by simp) (Nat.le_refl _) h0
 exact ⟨ts,fun fl=>ak_1 hs h1 (by simpa using h3) (shut_q (d:=99995) h2),List.length_pos_iff.1 h3,h4,h5⟩
def TgL (ls:List AV):Prop:=∀ x ∈ ls,∃ (a b:Bs) (w:Bool) (k:Int),x=tagA a b w k∧0≤k∧b.length≤9223372036854775807
theorem tgV_len:∀ s ∈ tgV,s.length≤9223372036854775807:=by
 intro s hs
 have:(tgV.all fun s=>decide (s.length≤100))=true:=by decide
 have:=of_decide_eq_true (List.all_eq_true.1 this s hs)
 omega
theorem tag_ok {m:Int} {a b:Bs} {w:Bool} {k:Int} (hk:0≤k) (hb:b.length≤9223372036854775807):∃ p:Pr,p.2.length≤9223372036854775807∧∀ fl hp,evI (cfg m) fl 35 [tagA a b w k] hp=some (pAV p,hp):=by
 cases w with
 | false=>exact ⟨(a,b),hb,fun fl hp=>tg_p⟩
 | true =>
  refine ⟨tgO k, ?_,tg_ok hk⟩
  unfold tgO
  dsimp only
  rw [List.getD_eq_getElem?_getD]
  cases h:tgV[(Int.tmod (IntKind.u8.wrap (Int.tdiv k 5)) 8).toNat]? with
  | none=>simp
  | some s=>exact tgV_len s (List.mem_of_getElem? h)
theorem ts_loop {m:Int} {fl:Nat} {l:AV} {ls:List AV} (hl:IsSl 4 l ls) (ht:TgL ls):∀ (d i:Nat) (hp:List Blk) (o:AV) (ps:List Pr),d + i=6→Gr fl 2 hp o (ps.map pAV)→ps.length=i→(∀ p ∈ ps,p.2.length≤9223372036854775807)→fl≤hp.length →
  ∃ (o':AV) (hp':List Blk) (qs:List Pr),LoopI (cfg m) fl 19 (bodyAt (cfg m) 19 3) 3 ⟨tsSt l o i,hp⟩ (.exit 0) ⟨tsEnd o',hp'⟩∧Gr fl 2 hp' o' (qs.map pAV)∧qs.length≤6∧∀ p ∈ qs,p.2.length≤9223372036854775807
 | 0,i,hp,o,ps,hd,ho,hm,hg,hf=>⟨o,hp,ps,ts_x hl (by omega) (by omega),ho,by omega,hg⟩
 | d + 1,i,hp,o,ps,hd,ho,hm,hg,hf=>by
  rcases Nat.lt_or_ge i ls.length with hi | hi
  ·obtain ⟨a,b,w,k,he,hk,hb⟩:=ht ls[i] (List.getElem_mem hi)
   obtain ⟨p,hp0,hw⟩:=tag_ok (m:=m) (a:=a) (w:=w) hk hb
   obtain ⟨hp',o1,h1,h2,h3⟩:=ts_i (m:=m) (p:=p) hl (by rw [List.getElem?_eq_getElem hi,he]) hi (by omega) hw ho (by simp only [List.length_cons,List.length_nil,List.length_map];omega) hf
   have h2':Gr fl 2 hp' o1 ((ps++[p]).map pAV):=by rw [List.map_append];exact h2
   obtain ⟨o',hp'',qs,q1,q2⟩:=ts_loop (m:=m) hl ht d (i + 1) hp' o1 (ps++[p]) (by omega) h2' (by simp [hm]) (fun u hu=>by
    rcases List.mem_append.1 hu with hu | hu
    ·exact hg u hu
    ·obtain rfl:u=p:=by simpa using hu
     exact hp0) (Nat.le_trans hf h3.1)
   exact ⟨o',hp'',qs,h1 _ _ q1,q2⟩
  ·exact ⟨o,hp,ps,ts_x hl (.inl hi) (by omega),ho,by omega,hg⟩
theorem tags_ok {m:Int} {hp:List Blk} {l:AV} {ls:List AV} (hl:IsSl 4 l ls) (ht:TgL ls):∃ (w:AV) (qs:List Pr),(∀ fl,evI (cfg m) fl 19 [l, .int .i64 6] hp=some (w,hp))∧IsSl 2 w (qs.map pAV)∧qs.length≤6∧∀ p ∈ qs,p.2.length≤9223372036854775807:=by
 obtain ⟨o',hp',qs,h1,h2,h3,h4⟩:=ts_loop (m:=m) (fl:=hp.length) hl ht 6 0 hp .nilS [] rfl (.nil _ _ _) rfl (by simp) (Nat.le_refl _)
 refine ⟨sealOf o',qs,fun fl=>ts_n h1 (shut_gr h2 fun v hv => ?_),sealOf_sl h2,h3,h4⟩
 obtain ⟨p,_,rfl⟩:=List.mem_map.1 hv
 exact plainP
theorem ofF_mem {ps:List Pr}:∀ p ∈ ofF ps,p ∈ ps:=by
 have key:∀ (l r:List Pr) (p:Pr),p ∈ l.foldl (fun r p=>if nameB p.1=true then insP p r else r) r→p ∈ r∨p ∈ l:=by
  intro l
  induction l with
  | nil=>intro r p h;exact .inl h
  | cons x l ih =>
   intro r p h
   rcases ih _ p h with h | h
   ·dsimp only at h
    split at h
    ·rcases insP_mem h with rfl | h
     ·exact .inr (by simp)
     ·exact .inl h
    ·exact .inl h
   ·exact .inr (by simp [h])
 intro p hp
 rcases key ps [] p hp with h | h
 ·cases h
 ·exact h
theorem sm_loop {m:Int} {fl:Nat} {hp:List Blk} {x y:AV} {ms:List Mt} (hx:IsSl 3 x (ms.map mtA)) (hy:IsSl 3 y (ms.map mtA)) (hn:ms.length≤1000000000):∀ (d i:Nat),d + i=ms.length→LoopI (cfg m) fl 46 (bodyAt (cfg m) 46 4) 4 ⟨smSt x y ms.length i,hp⟩ (.exit 0) ⟨List.replicate 26 J,hp⟩
 | 0,i,hd=>by
  obtain rfl:i=ms.length:=by omega
  exact sm_x
 | d + 1,i,hd=>by
  have hi:i < ms.length:=by omega
  have hp1:(ms.map mtA)[i]?=some (mtA ms[i]):=by rw [List.getElem?_map,List.getElem?_eq_getElem hi];rfl
  exact sm_i hx hy hp1 hp1 (by simp) (by simp) hi hn _ _ (sm_loop hx hy hn d (i + 1) (by omega))
theorem same_ok {m:Int} {hp:List Blk} {o1 o2:Own} {ms:List Mt} (hn:ms.length≤1000000000):∀ fl,evI (cfg m) fl 23 [qyA (.lit 3 o1 (ms.map mtA)),qyA (.lit 3 o2 (ms.map mtA))] hp=some (.bool true,hp):=fun fl =>
 ss_w (fun fl=>sm_w (.lit _ _ _) (.lit _ _ _) (by simp) fun fl=>by
  have:=sm_loop (m:=m) (fl:=fl) (hp:=hp) (.lit 3 o1 (ms.map mtA)) (.lit 3 o2 (ms.map mtA)) hn ms.length 0 rfl
  rwa [← List.length_map (f:=mtA)] at this) (fun fl=>evI_of (k:=300) (by kernel_rfl))
theorem ty28m {m:Int}:(cfg m).ty 28=some ⟨.slice 70,1,24,[.nilS],false⟩:=by kernel_rfl
theorem lenH_arr {m:Int} {b N:Nat}:LenH m (.arr 5 b 0 N) N:=fun fl ar hp ts=>by simp only [builtinE,lenE,ty28m];rfl
theorem lenH_lit {m:Int} {o:Own} {xs:List AV}:LenH m (.lit 5 o xs) xs.length:=fun fl ar hp ts=>by simp only [builtinE,lenE,ty28m];rfl
theorem lenH_nil {m:Int}:LenH m .nilS 0:=fun fl ar hp ts=>by simp only [builtinE,lenE,ty28m];rfl
def Hj (xs:List AV) (i:Nat):Prop:=∀ (j:Nat) x,xs[j]?=some x→∃ (a b c:Bs) (w:Bool) (q:Int),x = .agg [.str a, .str b, .str c, .bool w, .int .u8 q]∧0≤q∧(j < i→w=true)
theorem Hj.agg {xs:List AV} {i:Nat} (h:Hj xs i):AggN 5 xs:=fun v hv=>by
 obtain ⟨j,hj⟩:=List.getElem?_of_mem hv
 obtain ⟨a,b,c,w,q,rfl,_⟩:=h j v hj
 exact ⟨_,rfl,rfl⟩
theorem Hj.set {xs:List AV} {i:Nat} {a b c:Bs} {q:Int} (h:Hj xs i) (hq:0≤q):Hj (xs.set i (.agg [.str a, .str b, .str c, .bool true, .int .u8 q])) (i + 1):=fun j x hx=>by
 rw [List.getElem?_set] at hx
 split at hx
 ·split at hx
  ·cases hx;exact ⟨a,b,c,true,q,rfl,hq,fun _=>rfl⟩
  ·cases hx
 ·rename_i hij
  obtain ⟨a,b,c,w,q,e,h1,h2⟩:=h j x hx
  exact ⟨a,b,c,w,q,e,h1,fun h=>h2 (by omega)⟩
theorem mo_loop {m:Int} {ls lt o:AV} {n:Bs} {A B:Int} {N:Nat} (hN2:N * 56≤140737488355328):∀ (d i:Nat) (hp:List Blk) (lm:AV) (xs:List AV),d + 1 + i=N→LenH m lm N→elems hp 5 lm=some xs→N=xs.length→Hj xs i →
  ∃ b hp' xs',LoopI (cfg m) 0 7 (bodyAt (cfg m) 7 7) 7 ⟨moSt lm ls lt n o A B i,hp⟩ (.exit 0) ⟨moEnd (.arr 5 b 0 N) ls lt n o A B,hp'⟩∧blkCells hp' b=some (flat xs')∧N=xs'.length∧Hj xs' N:=by
 intro d
 induction d with
 | zero =>
  intro i hp lm xs hd hl he hN hj
  have hi:i < xs.length:=by omega
  obtain ⟨a,b,c,w,q,e,h1,_⟩:=hj i xs[i] (List.getElem?_eq_getElem hi)
  obtain ⟨hp',g1,g2,g3⟩:=mo_i (m:=m) (hp:=hp) (ls:=ls) (lt:=lt) (o:=o) (n:=n) (A:=A) (B:=B) hl he hj.agg hN (by intro h;rw [h] at hi;simp at hi) (by omega) (by rw [List.getElem?_eq_getElem hi,e]) (by omega) (by omega)
  have hx:=mo_x (m:=m) (hp:=hp') (lm := .arr 5 hp.length 0 N) (ls:=ls) (lt:=lt) (o:=o) (n:=n) (A:=A) (B:=B) lenH_arr
  obtain rfl:i + 1=N:=by omega
  exact ⟨hp.length,hp',_,g1 _ _ hx,g2,by simpa using hN,hj.set h1⟩
 | succ d ih =>
  intro i hp lm xs hd hl he hN hj
  have hi:i < xs.length:=by omega
  obtain ⟨a,b,c,w,q,e,h1,_⟩:=hj i xs[i] (List.getElem?_eq_getElem hi)
  obtain ⟨hp',g1,g2,g3⟩:=mo_i (m:=m) (hp:=hp) (ls:=ls) (lt:=lt) (o:=o) (n:=n) (A:=A) (B:=B) hl he hj.agg hN (by intro h;rw [h] at hi;simp at hi) (by omega) (by rw [List.getElem?_eq_getElem hi,e]) (by omega) (by omega)
  have hj':=hj.set (a:=a) (b:=b) (c:=c) h1
  have hN':N=(xs.set i (.agg [.str a, .str b, .str c, .bool true, .int .u8 q])).length:=by simpa using hN
  obtain ⟨b',hp'',xs',k1,k2⟩:=ih (i + 1) hp' (.arr 5 hp.length 0 N) _ (by omega) lenH_arr (RowN.elems (n:=0) (.inr ⟨hp.length,by rw [← hN'],g2,Nat.zero_le _,hj'.agg⟩) (by decide)) hN' hj'
  exact ⟨b',hp'',xs',g1 _ _ k1,k2⟩
theorem enf_2 {ps ms:List Mt}:enfF ps (enfF ps ms)=enfF ps ms:=by
 have:ps.filter (fun t => !decide (t ∈ enfF ps ms))=[]:=List.filter_eq_nil_iff.2 fun t ht=>by
  have:t ∈ enfF ps ms:=by
   unfold enfF
   by_cases h:t ∈ ms
   ·exact List.mem_append.2 (.inr h)
   ·exact List.mem_append.2 (.inl (List.mem_filter.2 ⟨ht,by simp [h]⟩))
  simp [this]
 show ps.filter (fun t => !decide (t ∈ enfF ps ms))++enfF ps ms=enfF ps ms
 rw [this];rfl
theorem enf_all {ps ms:List Mt} (f:Mt→Bool):(enfF ps ms).all f=(ps.all f&&ms.all f):=by
 rw [Bool.eq_iff_iff]
 simp only [enfF,List.all_append,Bool.and_eq_true,List.all_eq_true,List.mem_filter]
 constructor
 ·rintro ⟨h1,h2⟩
  refine ⟨fun t ht => ?_,h2⟩
  by_cases h:t ∈ ms
  ·exact h2 t h
  ·exact h1 t ⟨ht,by simp [h]⟩
 ·rintro ⟨h1,h2⟩
  exact ⟨fun t ht=>h1 t ht.1,h2⟩
theorem enf_good {ps ms:List Mt} (h1:∀ t ∈ ps,Good t) (h2:∀ t ∈ ms,Good t):∀ t ∈ enfF ps ms,Good t:=fun t ht=>by
 rcases List.mem_append.1 ht with h | h
 ·exact h1 t (List.mem_filter.1 h).1
 ·exact h2 t h
theorem enf_len {ps ms:List Mt}:(enfF ps ms).length≤ps.length + ms.length:=by
 unfold enfF
 rw [List.length_append]
 have:=List.length_filter_le (fun t => !decide (t ∈ ms)) ps
 omega
theorem insP_le {p:Pr}:∀ l:List Pr,(insP p l).length≤l.length + 1
 | []=>by simp [insP]
 | q::l=>by
  unfold insP
  have:=insP_le (p:=p) l
  split
  ·simp only [List.length_cons];omega
  ·split <;> simp only [List.length_cons] <;> omega
theorem ofF_len {ps:List Pr}:(ofF ps).length≤ps.length:=by
 have key:∀ (l r:List Pr),(l.foldl (fun r p=>if nameB p.1=true then insP p r else r) r).length≤r.length + l.length:=by
  intro l
  induction l with
  | nil=>intro r;simp
  | cons x l ih =>
   intro r
   have h:=ih (if nameB x.1=true then insP x r else r)
   have h2:(if nameB x.1=true then insP x r else r).length≤r.length + 1:=by split;exact insP_le _;omega
   simp only [List.foldl_cons,List.length_cons]
   omega
 have:=key ps []
 simpa [ofF] using this
theorem AllP.lt {m:Int} {lo a:Nat} {hp:List Blk} {fs:List (Bs × (Bs→Bool))} (h:AllP m lo hp a fs):a < hp.length:=by
 obtain ⟨_,_,h,_⟩:=h;exact blk_lt h
theorem must_end {m:Int} {s0 n:Bs} {l0 l lm lm' ls lt o:AV} {a0 b0 k A B:Int} {w:Bool} {owq:Own} {hp hp1:List Blk} {ps ms:List Mt} {ts:List AV}
  (hr:evI (cfg m) 0 9 [.agg [.str s0,l0, .int .i64 a0, .int .i64 b0, .bool true, .int .u8 k,l]] []=some (plA n o A B,hp)) (hlp:LoopI (cfg m) 0 7 (bodyAt (cfg m) 7 7) 7 ⟨moSt lm ls lt n o A B 0,hp⟩ (.exit 0) ⟨moEnd lm' ls lt n o A B,hp1⟩) (hq:∀ fl,evI (cfg m) fl 17 [.agg [lm',ls], .int .i64 4, .int .i64 0] hp1=some (qyA (.lit 3 owq (ms.map mtA)),hp1))
  (hv:MsV o ps) (hps:ps.length≤2) (hpg:∀ t ∈ ps,Good t) (hm0:ms≠[]) (hms:ms.length≤4) (hmg:∀ t ∈ ms,Good t) (hl:IsSl 4 lt ts) (ht:TgL ts):evI (cfg m) 0 7 [.agg [.str s0,l0, .int .i64 a0, .int .i64 b0, .bool w, .int .u8 k,l], .agg [lm,ls],lt] []=some (.bool true,[]):=by
 obtain ⟨tv,qs,t1,t2,t3,t4⟩:=tags_ok (m:=m) (hp:=hp1) hl ht
 have hof:=of_ok (m:=m) (hp:=hp1) t2 (by omega)
 have hlb:LbV (slV (ofF qs)) (ofF qs):=slV_lb _
 have hlv:∀ p ∈ ofF qs,p.2.length≤9223372036854775807:=fun p hp=>t4 p (ofF_mem p hp)
 have hln:(ofF qs).length≤1000000000:=by
  have:=ofF_len (ps:=qs);omega
 have el:=enf_len (ps:=ps) (ms:=ms)
 have e1:=enf_ok (m:=m) (n:=n) (A:=A) (B:=B) (ow:=owq) (hp:=hp1) hv hps (by omega:ms.length≤6) hm0
 have hm1:enfF ps ms≠[]:=by
  unfold enfF;intro h;exact hm0 (List.append_eq_nil_iff.1 h).2
 have e2:=enf_ok (m:=m) (n:=n) (A:=A) (B:=B) (ow := .sealed) (hp:=hp1) hv hps (by omega:(enfF ps ms).length≤6) hm1
 rw [enf_2] at e2
 obtain ⟨hp2,v1,a1,f1⟩:=every_ok (m:=m) (hp:=hp1) (.lit 3 .sealed ((enfF ps ms).map mtA)) (enf_good hpg hmg) (by omega)
 obtain ⟨hp3,v2,a2,f2⟩:=every_ok (m:=m) (hp:=hp2) hv.isl hpg (by omega)
 obtain ⟨hp4,v3,a3,f3⟩:=every_ok (m:=m) (hp:=hp3) (.lit 3 owq (ms.map mtA)) hmg (by omega)
 have b1:=all_ok ((a1.fr f2).fr f3) (by have:=a1.lt;have:=f2.1;have:=f3.1;omega) (by simp;omega) hlb hln hlv
 have b2:=all_ok (a2.fr f3) (by have:=a2.lt;have:=f3.1;omega) (by simp;omega) hlb hln hlv
 have b3:=all_ok a3 (by have:=a3.lt;omega) (by simp;omega) hlb hln hlv
 have sm:=same_ok (m:=m) (hp:=hp4) (o1 := .sealed) (o2 := .sealed) (ms:=enfF ps ms) (by omega)
 rw [List.all_map] at b1 b2 b3
 have ea:=enf_all (ps:=ps) (ms:=ms) ((fun f:Bs × (Bs→Bool)=>f.2 (getV (ofF qs) f.1)) ∘ mtF)
 rw [ea] at b1
 have hk:((enfF ps ms).map mtA).length≤ps.length + (ms.map mtA).length:=by simpa using el
 cases h2:ps.all ((fun f:Bs × (Bs→Bool)=>f.2 (getV (ofF qs) f.1)) ∘ mtF) with
 | false =>
  rw [h2] at b1 b2
  exact mu_f ex0 hr hlp hq t1 hof e1 e2 v1 v2 v3 b1 b2 sm hv.len hk (by omega) (by simp;omega)
 | true =>
  rw [h2] at b1 b2
  cases h3:ms.all ((fun f:Bs × (Bs→Bool)=>f.2 (getV (ofF qs) f.1)) ∘ mtF) with
  | false =>
   rw [h3] at b1 b3
   exact mu_tf ex0 hr hlp hq t1 hof e1 e2 v1 v2 v3 b1 b2 b3 sm hv.len hk (by omega) (by simp;omega)
  | true =>
   rw [h3] at b1 b3
   exact mu_tt ex0 hr hlp hq t1 hof e1 e2 v1 v2 v3 b1 b2 b3 sm hv.len hk (by omega) (by simp;omega)
theorem hs_of {d:Nat} {xs:List AV} (h:∀ y ∈ xs,Sh (cfg 0) (d + 3) 70 y):Hs xs:=fun x hx=>by
 obtain ⟨a,b,c,w,q,e,_,_,_,hq⟩:=sh70 (h x hx)
 exact ⟨a,b,c,w,q,e,hq.1⟩
theorem tgl_of {d:Nat} {xs:List AV} (h:∀ y ∈ xs,Sh (cfg 0) (d + 3) 107 y):TgL xs:=fun x hx=>by
 obtain ⟨a,b,w,k,e,_,h2,hk⟩:=sh107 (h x hx)
 exact ⟨a,b,w,k,e,hk.1,h2⟩
theorem law_must (r x l:AV) (sr:Sh (cfg 0) 8 30 r) (sx:Sh (cfg 0) 8 66 x) (sl:Sh (cfg 0) 8 55 l) (hb:∀ xs s,x = .agg [.lit 5 .sealed xs,s]→xs.length * 56≤140737488355328):evI (cfg 0) 0 7 [r,x,l] []=some (.bool true,[]):=by
 obtain ⟨s1,y2,y2s,n3,n4,b5,n6,y7,y7s,rfl,_,_,_,_,h6,h7,h8⟩:=sh30 sr
 obtain ⟨x1,x1s,x2,x2s,rfl,⟨g1,g2⟩,⟨g3,_⟩⟩:=sh66 sx
 obtain ⟨ls,t1,t2⟩:=sh55 sl
 obtain ⟨n,o,A,B,hp,ps,hr,hv,hps,hpg⟩:=rule_good (m:=0) (s0:=s1) (l0:=y2) (a0:=n3) (b0:=n4) h7.isSl (hs_of h8) h6.1
 by_cases hz:x1s=[]
 ·subst hz
  have hl0:LenH 0 x1 0:=by
   rcases g1 with ⟨rfl,_⟩ | rfl
   ·exact lenH_nil
   ·exact lenH_lit
  exact must_end (ms:=[([97,112,112],[33,61],[110,111,110,101])]) hr (mo_x hl0) (fun fl=>ak_0 g3.isSl g1.isSl fun fl=>ak_z g1.isSl) hv hps hpg (by simp) (by simp) (fun t ht=>by rw [List.mem_singleton.1 ht];exact good_0) t1.isSl (tgl_of t2)
 ·obtain rfl:x1 = .lit 5 .sealed x1s:=by
   rcases g1 with ⟨_,h⟩ | h
   ·exact absurd h hz
   ·exact h
  have hN:=hb x1s x2 rfl
  have hpos:=List.length_pos_iff.2 hz
  have hh:=hs_of g2
  obtain ⟨b,hp1,xs',k1,k2,k3,k4⟩:=mo_loop (m:=0) (ls:=x2) (lt:=l) (o:=o) (n:=n) (A:=A) (B:=B) hN (x1s.length - 1) 0 hp (.lit 5 .sealed x1s) x1s (by omega) lenH_lit (by simp [elems]) rfl (fun j y hy=>by
   obtain ⟨a,b,c,w,q,e,hq⟩:=hh y (List.mem_of_getElem? hy)
   exact ⟨a,b,c,w,q,e,hq,fun h=>by omega⟩)
  have ho:HsO xs':=fun y hy=>by
   obtain ⟨j,hj⟩:=List.getElem?_of_mem hy
   obtain ⟨a,b,c,w,q,e,hq,hw⟩:=k4 j y hj
   have:j < xs'.length:=(List.getElem?_eq_some_iff.1 hj).1
   rw [hw (by omega)] at e
   exact ⟨a,b,c,q,e,hq⟩
  obtain ⟨ms,q1,q2,q3,q4⟩:=ask_ok (m:=0) (hp:=hp1) g3.isSl k2 k4.agg k3 (by omega) ho hpos
  exact must_end hr k1 q1 hv hps hpg q2 q3 q4 t1.isSl (tgl_of t2)
end Go.Proofs.YtbbndbckopljfaaGreatDoor.E.SW
namespace Go.Proofs.YtbbndbckopljfaaGreatDoor.E.SW
open Go Go.Proofs Go.Proofs.YtbbndbckopljfaaGreatDoor E E.R E.L
theorem wt_len {H:Type} {enc:TypeId × Value→H} {W:World} {v:Value} {d:DataW H} {p:List MemPlace} {xs:List AV} {s:AV} (h:DataW.Trod enc Tryz.prog W 0 (fun _=>true) true 66 v d p) (y:VR 0 (lay0 W) W (.agg [.lit 5 .sealed xs,s]) v) (hw:∀ n ∈ d.weights Tryz.prog 66,n≤reachBytes):xs.length * 56≤reachBytes:=by
 obtain ⟨fuel,h⟩:=h
 cases y with
 | agg _ rc hs h1 h2 =>
  have h0:=h2 0 _ rfl
  obtain ⟨y0,y1,n,hx,hl,t0,_⟩:=Go.ChangeShapes.trod_struct2 Tryz.underlying66 h
  have hc:Tryz.prog.cellsOf 28=1:=by kernel_rfl
  have hb:Tryz.prog.bytesOf 70=56:=by kernel_rfl
  have hs':rc.size=2:=hs
  have e1:((Value.agg rc).cells.toList.drop 0).take (Tryz.prog.cellsOf 28)=[rc.getD 0 default]:=by
   rw [hc]
   show (rc.toList.drop 0).take 1=_
   rw [List.drop_zero]
   apply List.ext_getElem?
   intro i
   cases i with
   | zero=>simp [Array.getD,hs']
   | succ i=>simp;omega
  rw [e1] at t0
  obtain ⟨hd,_⟩:=Prod.mk.inj hx
  rcases DataW.trod_slice Tryz.underlying28 t0 with ⟨e,_⟩ | ⟨a,len,cap,elems,rest,m,_,e,hy0,_,_,_,hel,_⟩
  ·rw [List.cons.inj e |>.1] at h0
   cases h0
  ·rw [List.cons.inj e |>.1] at h0
   have hlen:xs.length=len:=by cases h0 <;> rfl
   have:=hw (((elems.map (·.1)).length + (rest.map (·.1)).length) * Tryz.prog.bytesOf 70) (by
    rw [hd,hy0]
    simp only [DataW.weights,Tryz.underlying66,Tryz.underlying28,DataW.weightsEach,List.map_cons,List.map_nil,List.cons_append,List.mem_cons,true_or])
   rw [hb] at this
   simp only [List.length_map] at this
   omega
end Go.Proofs.YtbbndbckopljfaaGreatDoor.E.SW
