/- archivistlaw08.AstWrong answers true at every input. -/
import Derived.Test.YtikpanghmcadoaaGreatDoorEWords
set_option linter.unusedSimpArgs false
set_option linter.unusedVariables false
namespace Go.Proofs.YtikpanghmcadoaaGreatDoor.E.S3
open Go Go.Proofs E
abbrev mat : List AV := [.str [97, 112, 112], .str [61], .str [97]]
abbrev good : List AV := [.int .i64 1, .str [], .str [124, 61], .str [98], .int .i64 0, .int .i64 0]
abbrev stg (kd : Int) (n o v : List UInt8) (x u : Int) : List AV := [.int .i64 kd, .str n, .str o, .str v, .int .i64 x, .int .i64 u]
abbrev HP0 : List Blk := [Blk.cells mat, Blk.cells good]
theorem fine : evCall cfg 3000 0 8 [.agg [.arr 3 0 0 1, .arr 6 1 0 1]] HP0 = some (.bool true, HP0) := by kernel_rfl

/-! what a stage is made of -/
abbrev partArgs (k : Int) : List AV := [.agg [.int .i64 0, .str [], .str [], .str [], .int .i64 0, .int .i64 0, .bool true, .int .u8 k, .int .i64 0]]
def isStg : Option (AV × List Blk) → Bool
  | some (.agg [.int .i64 _, .str _, .str _, .str _, .int .i64 _, .int .i64 _], _) => true
  | _ => false
theorem parts0 : ((List.range' 0 8).all fun i => isStg (evCall cfg 3000 0 9 (partArgs (Int.ofNat i)) HP0)) = true := by kernel_rfl
theorem parts1 : ((List.range' 8 8).all fun i => isStg (evCall cfg 3000 0 9 (partArgs (Int.ofNat i)) HP0)) = true := by kernel_rfl
theorem parts2 : ((List.range' 16 8).all fun i => isStg (evCall cfg 3000 0 9 (partArgs (Int.ofNat i)) HP0)) = true := by kernel_rfl
theorem parts3 : ((List.range' 24 8).all fun i => isStg (evCall cfg 3000 0 9 (partArgs (Int.ofNat i)) HP0)) = true := by kernel_rfl
theorem parts4 : ((List.range' 32 8).all fun i => isStg (evCall cfg 3000 0 9 (partArgs (Int.ofNat i)) HP0)) = true := by kernel_rfl
theorem parts5 : ((List.range' 40 8).all fun i => isStg (evCall cfg 3000 0 9 (partArgs (Int.ofNat i)) HP0)) = true := by kernel_rfl
theorem parts6 : ((List.range' 48 8).all fun i => isStg (evCall cfg 3000 0 9 (partArgs (Int.ofNat i)) HP0)) = true := by kernel_rfl
theorem parts7 : ((List.range' 56 8).all fun i => isStg (evCall cfg 3000 0 9 (partArgs (Int.ofNat i)) HP0)) = true := by kernel_rfl
theorem parts8 : ((List.range' 64 8).all fun i => isStg (evCall cfg 3000 0 9 (partArgs (Int.ofNat i)) HP0)) = true := by kernel_rfl
theorem parts9 : ((List.range' 72 8).all fun i => isStg (evCall cfg 3000 0 9 (partArgs (Int.ofNat i)) HP0)) = true := by kernel_rfl
theorem parts10 : ((List.range' 80 8).all fun i => isStg (evCall cfg 3000 0 9 (partArgs (Int.ofNat i)) HP0)) = true := by kernel_rfl
theorem parts11 : ((List.range' 88 8).all fun i => isStg (evCall cfg 3000 0 9 (partArgs (Int.ofNat i)) HP0)) = true := by kernel_rfl
theorem parts12 : ((List.range' 96 8).all fun i => isStg (evCall cfg 3000 0 9 (partArgs (Int.ofNat i)) HP0)) = true := by kernel_rfl
theorem parts13 : ((List.range' 104 8).all fun i => isStg (evCall cfg 3000 0 9 (partArgs (Int.ofNat i)) HP0)) = true := by kernel_rfl
theorem parts14 : ((List.range' 112 8).all fun i => isStg (evCall cfg 3000 0 9 (partArgs (Int.ofNat i)) HP0)) = true := by kernel_rfl
theorem parts15 : ((List.range' 120 8).all fun i => isStg (evCall cfg 3000 0 9 (partArgs (Int.ofNat i)) HP0)) = true := by kernel_rfl
theorem parts16 : ((List.range' 128 8).all fun i => isStg (evCall cfg 3000 0 9 (partArgs (Int.ofNat i)) HP0)) = true := by kernel_rfl
theorem parts17 : ((List.range' 136 8).all fun i => isStg (evCall cfg 3000 0 9 (partArgs (Int.ofNat i)) HP0)) = true := by kernel_rfl
theorem parts18 : ((List.range' 144 8).all fun i => isStg (evCall cfg 3000 0 9 (partArgs (Int.ofNat i)) HP0)) = true := by kernel_rfl
theorem parts19 : ((List.range' 152 8).all fun i => isStg (evCall cfg 3000 0 9 (partArgs (Int.ofNat i)) HP0)) = true := by kernel_rfl
theorem parts20 : ((List.range' 160 8).all fun i => isStg (evCall cfg 3000 0 9 (partArgs (Int.ofNat i)) HP0)) = true := by kernel_rfl
theorem parts21 : ((List.range' 168 8).all fun i => isStg (evCall cfg 3000 0 9 (partArgs (Int.ofNat i)) HP0)) = true := by kernel_rfl
theorem parts22 : ((List.range' 176 8).all fun i => isStg (evCall cfg 3000 0 9 (partArgs (Int.ofNat i)) HP0)) = true := by kernel_rfl
theorem parts23 : ((List.range' 184 8).all fun i => isStg (evCall cfg 3000 0 9 (partArgs (Int.ofNat i)) HP0)) = true := by kernel_rfl
theorem parts24 : ((List.range' 192 8).all fun i => isStg (evCall cfg 3000 0 9 (partArgs (Int.ofNat i)) HP0)) = true := by kernel_rfl
theorem parts25 : ((List.range' 200 8).all fun i => isStg (evCall cfg 3000 0 9 (partArgs (Int.ofNat i)) HP0)) = true := by kernel_rfl
theorem parts26 : ((List.range' 208 8).all fun i => isStg (evCall cfg 3000 0 9 (partArgs (Int.ofNat i)) HP0)) = true := by kernel_rfl
theorem parts27 : ((List.range' 216 8).all fun i => isStg (evCall cfg 3000 0 9 (partArgs (Int.ofNat i)) HP0)) = true := by kernel_rfl
theorem parts28 : ((List.range' 224 8).all fun i => isStg (evCall cfg 3000 0 9 (partArgs (Int.ofNat i)) HP0)) = true := by kernel_rfl
theorem parts29 : ((List.range' 232 8).all fun i => isStg (evCall cfg 3000 0 9 (partArgs (Int.ofNat i)) HP0)) = true := by kernel_rfl
theorem parts30 : ((List.range' 240 8).all fun i => isStg (evCall cfg 3000 0 9 (partArgs (Int.ofNat i)) HP0)) = true := by kernel_rfl
theorem parts31 : ((List.range' 248 8).all fun i => isStg (evCall cfg 3000 0 9 (partArgs (Int.ofNat i)) HP0)) = true := by kernel_rfl
theorem parts (n : Nat) (h : n < 256) : isStg (evCall cfg 3000 0 9 (partArgs (Int.ofNat n)) HP0) = true := by
  by_cases h0 : n < 8
  · exact List.all_eq_true.1 parts0 n (List.mem_range'_1.2 ⟨by omega, by omega⟩)
  by_cases h1 : n < 16
  · exact List.all_eq_true.1 parts1 n (List.mem_range'_1.2 ⟨by omega, by omega⟩)
  by_cases h2 : n < 24
  · exact List.all_eq_true.1 parts2 n (List.mem_range'_1.2 ⟨by omega, by omega⟩)
  by_cases h3 : n < 32
  · exact List.all_eq_true.1 parts3 n (List.mem_range'_1.2 ⟨by omega, by omega⟩)
  by_cases h4 : n < 40
  · exact List.all_eq_true.1 parts4 n (List.mem_range'_1.2 ⟨by omega, by omega⟩)
  by_cases h5 : n < 48
  · exact List.all_eq_true.1 parts5 n (List.mem_range'_1.2 ⟨by omega, by omega⟩)
  by_cases h6 : n < 56
  · exact List.all_eq_true.1 parts6 n (List.mem_range'_1.2 ⟨by omega, by omega⟩)
  by_cases h7 : n < 64
  · exact List.all_eq_true.1 parts7 n (List.mem_range'_1.2 ⟨by omega, by omega⟩)
  by_cases h8 : n < 72
  · exact List.all_eq_true.1 parts8 n (List.mem_range'_1.2 ⟨by omega, by omega⟩)
  by_cases h9 : n < 80
  · exact List.all_eq_true.1 parts9 n (List.mem_range'_1.2 ⟨by omega, by omega⟩)
  by_cases h10 : n < 88
  · exact List.all_eq_true.1 parts10 n (List.mem_range'_1.2 ⟨by omega, by omega⟩)
  by_cases h11 : n < 96
  · exact List.all_eq_true.1 parts11 n (List.mem_range'_1.2 ⟨by omega, by omega⟩)
  by_cases h12 : n < 104
  · exact List.all_eq_true.1 parts12 n (List.mem_range'_1.2 ⟨by omega, by omega⟩)
  by_cases h13 : n < 112
  · exact List.all_eq_true.1 parts13 n (List.mem_range'_1.2 ⟨by omega, by omega⟩)
  by_cases h14 : n < 120
  · exact List.all_eq_true.1 parts14 n (List.mem_range'_1.2 ⟨by omega, by omega⟩)
  by_cases h15 : n < 128
  · exact List.all_eq_true.1 parts15 n (List.mem_range'_1.2 ⟨by omega, by omega⟩)
  by_cases h16 : n < 136
  · exact List.all_eq_true.1 parts16 n (List.mem_range'_1.2 ⟨by omega, by omega⟩)
  by_cases h17 : n < 144
  · exact List.all_eq_true.1 parts17 n (List.mem_range'_1.2 ⟨by omega, by omega⟩)
  by_cases h18 : n < 152
  · exact List.all_eq_true.1 parts18 n (List.mem_range'_1.2 ⟨by omega, by omega⟩)
  by_cases h19 : n < 160
  · exact List.all_eq_true.1 parts19 n (List.mem_range'_1.2 ⟨by omega, by omega⟩)
  by_cases h20 : n < 168
  · exact List.all_eq_true.1 parts20 n (List.mem_range'_1.2 ⟨by omega, by omega⟩)
  by_cases h21 : n < 176
  · exact List.all_eq_true.1 parts21 n (List.mem_range'_1.2 ⟨by omega, by omega⟩)
  by_cases h22 : n < 184
  · exact List.all_eq_true.1 parts22 n (List.mem_range'_1.2 ⟨by omega, by omega⟩)
  by_cases h23 : n < 192
  · exact List.all_eq_true.1 parts23 n (List.mem_range'_1.2 ⟨by omega, by omega⟩)
  by_cases h24 : n < 200
  · exact List.all_eq_true.1 parts24 n (List.mem_range'_1.2 ⟨by omega, by omega⟩)
  by_cases h25 : n < 208
  · exact List.all_eq_true.1 parts25 n (List.mem_range'_1.2 ⟨by omega, by omega⟩)
  by_cases h26 : n < 216
  · exact List.all_eq_true.1 parts26 n (List.mem_range'_1.2 ⟨by omega, by omega⟩)
  by_cases h27 : n < 224
  · exact List.all_eq_true.1 parts27 n (List.mem_range'_1.2 ⟨by omega, by omega⟩)
  by_cases h28 : n < 232
  · exact List.all_eq_true.1 parts28 n (List.mem_range'_1.2 ⟨by omega, by omega⟩)
  by_cases h29 : n < 240
  · exact List.all_eq_true.1 parts29 n (List.mem_range'_1.2 ⟨by omega, by omega⟩)
  by_cases h30 : n < 248
  · exact List.all_eq_true.1 parts30 n (List.mem_range'_1.2 ⟨by omega, by omega⟩)
  by_cases h31 : n < 256
  · exact List.all_eq_true.1 parts31 n (List.mem_range'_1.2 ⟨by omega, by omega⟩)
  omega
theorem part_ev (k : Int) (h : 0 ≤ k ∧ k ≤ 255) : ∃ kd n o v x u, evCall cfg 3000 0 9 (partArgs k) HP0 = some (.agg (stg kd n o v x u), HP0) := by
  have := parts k.toNat (by omega)
  rw [show Int.ofNat k.toNat = k from Int.toNat_of_nonneg h.1] at this
  unfold isStg at this
  split at this
  · rename_i kd n o v x u hp he
    have := pure_hp (k := 2999) (by kernel_rfl) (by kernel_rfl) he
    subst this
    exact ⟨kd, n, o, v, x, u, he⟩
  · cases this

/-! stages that are not right -/
theorem num_stage (n o v : List UInt8) (x u : Int) (hx : (x != 0) = true) (hp : List Blk) (k fl : Nat) : evCall cfg (k + 1) fl 14 [.agg (stg 1 n o v x u)] hp = some (.bool false, hp) :=
  evP [(4, 2, .val (.bool true))] (φs := [some (AV.bool (x != 0)) = some (.bool true)]) (by kernel_rfl) (by rw [hx]; rfl)

theorem kind_0 (n o v : List UInt8) (x u : Int) (hp : List Blk) (k fl : Nat) : evCall cfg (k + 1) fl 14 [.agg (stg (0) n o v x u)] hp = some (.bool false, hp) := by
  cases hx : x != 0 with
  | true => exact evP [(4, 2, .val (.bool true))] (φs := [some (AV.bool (x != 0)) = some (.bool true)]) (by kernel_rfl) (by rw [hx]; rfl)
  | false =>
    cases hu : u != 0 with
    | true => exact evP [(4, 2, .val (.bool false)), (4, 6, .val (.bool true))] (φs := [some (AV.bool (x != 0)) = some (.bool false), some (AV.bool (u != 0)) = some (.bool true)]) (by kernel_rfl) (by rw [hx, hu]; exact ⟨rfl, rfl⟩)
    | false => exact evP [(4, 2, .val (.bool false)), (4, 6, .val (.bool false))] (φs := [some (AV.bool (x != 0)) = some (.bool false), some (AV.bool (u != 0)) = some (.bool false)]) (by kernel_rfl) (by rw [hx, hu]; exact ⟨rfl, rfl⟩)

theorem kind_1 (n o v : List UInt8) (x u : Int) (hp : List Blk) (k fl : Nat) : evCall cfg (k + 1) fl 14 [.agg (stg (5) n o v x u)] hp = some (.bool false, hp) := by
  cases hx : x != 0 with
  | true => exact evP [(4, 2, .val (.bool true))] (φs := [some (AV.bool (x != 0)) = some (.bool true)]) (by kernel_rfl) (by rw [hx]; rfl)
  | false =>
    cases hu : u != 0 with
    | true => exact evP [(4, 2, .val (.bool false)), (4, 6, .val (.bool true))] (φs := [some (AV.bool (x != 0)) = some (.bool false), some (AV.bool (u != 0)) = some (.bool true)]) (by kernel_rfl) (by rw [hx, hu]; exact ⟨rfl, rfl⟩)
    | false => exact evP [(4, 2, .val (.bool false)), (4, 6, .val (.bool false))] (φs := [some (AV.bool (x != 0)) = some (.bool false), some (AV.bool (u != 0)) = some (.bool false)]) (by kernel_rfl) (by rw [hx, hu]; exact ⟨rfl, rfl⟩)

theorem kind_2 (n o v : List UInt8) (x u : Int) (hp : List Blk) (k fl : Nat) : evCall cfg (k + 1) fl 14 [.agg (stg (-1) n o v x u)] hp = some (.bool false, hp) := by
  cases hx : x != 0 with
  | true => exact evP [(4, 2, .val (.bool true))] (φs := [some (AV.bool (x != 0)) = some (.bool true)]) (by kernel_rfl) (by rw [hx]; rfl)
  | false =>
    cases hu : u != 0 with
    | true => exact evP [(4, 2, .val (.bool false)), (4, 6, .val (.bool true))] (φs := [some (AV.bool (x != 0)) = some (.bool false), some (AV.bool (u != 0)) = some (.bool true)]) (by kernel_rfl) (by rw [hx, hu]; exact ⟨rfl, rfl⟩)
    | false => exact evP [(4, 2, .val (.bool false)), (4, 6, .val (.bool false))] (φs := [some (AV.bool (x != 0)) = some (.bool false), some (AV.bool (u != 0)) = some (.bool false)]) (by kernel_rfl) (by rw [hx, hu]; exact ⟨rfl, rfl⟩)

theorem kind_3 (n o v : List UInt8) (x u : Int) (hp : List Blk) (k fl : Nat) : evCall cfg (k + 1) fl 14 [.agg (stg (9) n o v x u)] hp = some (.bool false, hp) := by
  cases hx : x != 0 with
  | true => exact evP [(4, 2, .val (.bool true))] (φs := [some (AV.bool (x != 0)) = some (.bool true)]) (by kernel_rfl) (by rw [hx]; rfl)
  | false =>
    cases hu : u != 0 with
    | true => exact evP [(4, 2, .val (.bool false)), (4, 6, .val (.bool true))] (φs := [some (AV.bool (x != 0)) = some (.bool false), some (AV.bool (u != 0)) = some (.bool true)]) (by kernel_rfl) (by rw [hx, hu]; exact ⟨rfl, rfl⟩)
    | false => exact evP [(4, 2, .val (.bool false)), (4, 6, .val (.bool false))] (φs := [some (AV.bool (x != 0)) = some (.bool false), some (AV.bool (u != 0)) = some (.bool false)]) (by kernel_rfl) (by rw [hx, hu]; exact ⟨rfl, rfl⟩)


abbrev is14 : AV := .fn (.func 14) [] []
/-- a query whose second stage is not right -/
abbrev ints : List AV := [.int .i64 0, .int .i64 5, .int .i64 (-1), .int .i64 9]
abbrev HP6 (s : List AV) : List Blk := [Blk.cells mat, Blk.dead, Blk.cells ints, Blk.cells s, Blk.cells (good ++ s)]
abbrev HP6' (s : List AV) : List Blk := [Blk.cells mat, Blk.dead, Blk.cells ints, Blk.cells s, Blk.cells (good ++ s), Blk.cells [is14]]
abbrev HP7 (s : List AV) : List Blk := [Blk.cells mat, Blk.cells s]
abbrev HP7' (s : List AV) : List Blk := [Blk.cells mat, Blk.cells s, Blk.cells [is14]]
noncomputable def HY (l : AV) (c : Nat) (n i : Int) (hp : List Blk) : St := ⟨slots Tryz.f46.ntmps [(0, l), (1, .fn (.func 37) [] [.ptr c 0]), (7, .int .i64 n), (8, .int .i64 i)], hp⟩
noncomputable abbrev LY (k fl : Nat) := loopN cfg (evCall cfg k fl) fl 46 k (bodyOf Tryz.f46 2) 2
theorem clo6 (kd : Int) (n o v : List UInt8) (x u : Int) (k fl : Nat) (hs : ∀ hp k fl, evCall cfg (k + 1) fl 14 [.agg (stg kd n o v x u)] hp = some (.bool false, hp)) :
    evCall cfg (k + 2) fl 37 [.agg (stg kd n o v x u), .ptr 5 0] (HP6' (stg kd n o v x u)) = some (.bool true, HP6' (stg kd n o v x u)) :=
  evP [(1, 2, .res (.bool false) (HP6' (stg kd n o v x u)))] (φs := [evCall cfg (k + 1) 6 14 [.agg (stg kd n o v x u)] (HP6' (stg kd n o v x u)) = some (.bool false, HP6' (stg kd n o v x u))]) (by kernel_rfl) (hs _ k 6)
theorem clo7 (kd : Int) (n o v : List UInt8) (x u : Int) (k fl : Nat) (hs : ∀ hp k fl, evCall cfg (k + 1) fl 14 [.agg (stg kd n o v x u)] hp = some (.bool false, hp)) :
    evCall cfg (k + 2) fl 37 [.agg (stg kd n o v x u), .ptr 2 0] (HP7' (stg kd n o v x u)) = some (.bool true, HP7' (stg kd n o v x u)) :=
  evP [(1, 2, .res (.bool false) (HP7' (stg kd n o v x u)))] (φs := [evCall cfg (k + 1) 3 14 [.agg (stg kd n o v x u)] (HP7' (stg kd n o v x u)) = some (.bool false, HP7' (stg kd n o v x u))]) (by kernel_rfl) (hs _ k 3)
theorem idx7 (kd : Int) (n o v : List UInt8) (x u : Int) (k fl : Nat) (hs : ∀ hp k fl, evCall cfg (k + 1) fl 14 [.agg (stg kd n o v x u)] hp = some (.bool false, hp)) :
    evCall cfg (k + 4) fl 46 [.arr 6 1 0 1, .fn (.func 37) [] [.ptr 2 0]] (HP7' (stg kd n o v x u)) = some (.int .i64 0, HP7' (stg kd n o v x u)) := by
  have h1 : LY (k + 3) 3 (k + 2 + 1) (HY (.arr 6 1 0 1) 2 1 0 (HP7' (stg kd n o v x u))) = some (.ret, ⟨slots Tryz.f46.ntmps [(4, .int .i64 0)], HP7' (stg kd n o v x u)⟩) :=
    loop_exit (π := [(4, 5, .res (.bool true) (HP7' (stg kd n o v x u)))]) (φs := [evCall cfg (k + 3) 3 37 [.agg (stg kd n o v x u), .ptr 2 0] (HP7' (stg kd n o v x u)) = some (.bool true, HP7' (stg kd n o v x u))]) (by kernel_rfl) (fun h => by cases h) (clo7 kd n o v x u (k + 1) 3 hs)
  exact evP [(2, 1000000, .loop .ret ⟨slots Tryz.f46.ntmps [(4, .int .i64 0)], HP7' (stg kd n o v x u)⟩)] (φs := [loopN cfg (evCall cfg (k + 3) 3) 3 46 (k + 3) (bodyOf Tryz.f46 2) 2 (k + 3) (HY (.arr 6 1 0 1) 2 1 0 (HP7' (stg kd n o v x u))) = some (.ret, ⟨slots Tryz.f46.ntmps [(4, .int .i64 0)], HP7' (stg kd n o v x u)⟩)]) (by kernel_rfl) h1
theorem idx6 (kd : Int) (n o v : List UInt8) (x u : Int) (fl : Nat) (hs : ∀ hp k fl, evCall cfg (k + 1) fl 14 [.agg (stg kd n o v x u)] hp = some (.bool false, hp)) :
    evCall cfg 2997 fl 46 [.arr 6 4 0 2, .fn (.func 37) [] [.ptr 5 0]] (HP6' (stg kd n o v x u)) = some (.int .i64 1, HP6' (stg kd n o v x u)) := by
  have h1 : LY 2996 6 (2994 + 1) (HY (.arr 6 4 0 2) 5 2 1 (HP6' (stg kd n o v x u))) = some (.ret, ⟨slots Tryz.f46.ntmps [(4, .int .i64 1)], HP6' (stg kd n o v x u)⟩) :=
    loop_exit (π := [(4, 5, .res (.bool true) (HP6' (stg kd n o v x u)))]) (φs := [evCall cfg 2996 6 37 [.agg (stg kd n o v x u), .ptr 5 0] (HP6' (stg kd n o v x u)) = some (.bool true, HP6' (stg kd n o v x u))]) (by kernel_rfl) (fun h => by cases h) (clo6 kd n o v x u 2994 6 hs)
  have h0 : LY 2996 6 (2995 + 1) (HY (.arr 6 4 0 2) 5 2 0 (HP6' (stg kd n o v x u))) = LY 2996 6 2995 (HY (.arr 6 4 0 2) 5 2 1 (HP6' (stg kd n o v x u))) :=
    loop_step (π := []) (φs := []) (by kernel_rfl) trivial
  exact evP (k := 2996) [(2, 1000000, .loop .ret ⟨slots Tryz.f46.ntmps [(4, .int .i64 1)], HP6' (stg kd n o v x u)⟩)] (φs := [loopN cfg (evCall cfg 2996 6) 6 46 2996 (bodyOf Tryz.f46 2) 2 2996 (HY (.arr 6 4 0 2) 5 2 0 (HP6' (stg kd n o v x u))) = some (.ret, ⟨slots Tryz.f46.ntmps [(4, .int .i64 1)], HP6' (stg kd n o v x u)⟩)]) (by kernel_rfl) (h0.trans h1)
theorem right6 (kd : Int) (n o v : List UInt8) (x u : Int) (hs : ∀ hp k fl, evCall cfg (k + 1) fl 14 [.agg (stg kd n o v x u)] hp = some (.bool false, hp)) :
    evCall cfg 3000 0 8 [.agg [.arr 3 0 0 1, .arr 6 4 0 2]] (HP6 (stg kd n o v x u)) = some (.bool false, HP6 (stg kd n o v x u)) := by
  have h1 : evCall cfg 2998 5 36 [.arr 6 4 0 2, .fn (.func 37) [] [.ptr 5 0]] (HP6' (stg kd n o v x u)) = some (.bool true, HP6' (stg kd n o v x u)) :=
    evP (k := 2997) [(1, 2, .res (.int .i64 1) (HP6' (stg kd n o v x u)))] (φs := [evCall cfg 2997 6 46 [.arr 6 4 0 2, .fn (.func 37) [] [.ptr 5 0]] (HP6' (stg kd n o v x u)) = some (.int .i64 1, HP6' (stg kd n o v x u))]) (by kernel_rfl) (idx6 kd n o v x u 6 hs)
  have h2 : evCall cfg 2999 5 19 [.arr 6 4 0 2, is14] (HP6 (stg kd n o v x u)) = some (.bool false, HP6 (stg kd n o v x u)) :=
    evPure (k := 2998) (fi := (FI.of Tryz.f19).getD ⟨0, [], .skip⟩) [(1, 2, .res (.bool true) (HP6' (stg kd n o v x u)))] (hpF := HP6' (stg kd n o v x u)) (rs := [.bool false])
      (φs := [evCall cfg 2998 5 36 [.arr 6 4 0 2, .fn (.func 37) [] [.ptr 5 0]] (HP6' (stg kd n o v x u)) = some (.bool true, HP6' (stg kd n o v x u))]) (by kernel_rfl) (by kernel_rfl) (by kernel_rfl) (by kernel_rfl) h1 rfl
  exact evP (k := 2999) [(1, 24, .res (.bool false) (HP6 (stg kd n o v x u)))] (φs := [evCall cfg 2999 5 19 [.arr 6 4 0 2, is14] (HP6 (stg kd n o v x u)) = some (.bool false, HP6 (stg kd n o v x u))]) (by kernel_rfl) h2
theorem right7 (kd : Int) (n o v : List UInt8) (x u : Int) (hs : ∀ hp k fl, evCall cfg (k + 1) fl 14 [.agg (stg kd n o v x u)] hp = some (.bool false, hp)) :
    evCall cfg 3000 0 8 [.agg [.arr 3 0 0 1, .arr 6 1 0 1]] (HP7 (stg kd n o v x u)) = some (.bool false, HP7 (stg kd n o v x u)) := by
  have h1 : evCall cfg 2998 2 36 [.arr 6 1 0 1, .fn (.func 37) [] [.ptr 2 0]] (HP7' (stg kd n o v x u)) = some (.bool true, HP7' (stg kd n o v x u)) :=
    evP (k := 2997) [(1, 2, .res (.int .i64 0) (HP7' (stg kd n o v x u)))] (φs := [evCall cfg 2997 3 46 [.arr 6 1 0 1, .fn (.func 37) [] [.ptr 2 0]] (HP7' (stg kd n o v x u)) = some (.int .i64 0, HP7' (stg kd n o v x u))]) (by kernel_rfl) (idx7 kd n o v x u 2993 3 hs)
  have h2 : evCall cfg 2999 2 19 [.arr 6 1 0 1, is14] (HP7 (stg kd n o v x u)) = some (.bool false, HP7 (stg kd n o v x u)) :=
    evPure (k := 2998) (fi := (FI.of Tryz.f19).getD ⟨0, [], .skip⟩) [(1, 2, .res (.bool true) (HP7' (stg kd n o v x u)))] (hpF := HP7' (stg kd n o v x u)) (rs := [.bool false])
      (φs := [evCall cfg 2998 2 36 [.arr 6 1 0 1, .fn (.func 37) [] [.ptr 2 0]] (HP7' (stg kd n o v x u)) = some (.bool true, HP7' (stg kd n o v x u))]) (by kernel_rfl) (by kernel_rfl) (by kernel_rfl) (by kernel_rfl) h1 rfl
  exact evP (k := 2999) [(1, 24, .res (.bool false) (HP7 (stg kd n o v x u)))] (φs := [evCall cfg 2999 2 19 [.arr 6 1 0 1, is14] (HP7 (stg kd n o v x u)) = some (.bool false, HP7 (stg kd n o v x u))]) (by kernel_rfl) h2

theorem w0 (h k kd x u : Int) (n o v : List UInt8) (e : h.tmod 9 = 0) (hq : evCall cfg 3000 0 9 (partArgs k) HP0 = some (.agg (stg kd n o v x u), HP0)) : evCall cfg 3001 0 4 [.int .u8 h, .int .u8 k] [] = some (.bool true, []) :=
  evP (k := 3000) [(1, 0, .res (.bool true) []), (5, 1, .res (.bool true) HP0), (6, 2, .res (.agg (stg kd n o v x u)) HP0), (7, 1, .val (.int .u8 0))]
    (φs := [evCall cfg 3000 0 6 [] [] = some (.bool true, []),
      evCall cfg 3000 0 8 [.agg [.arr 3 0 0 1, .arr 6 1 0 1]] HP0 = some (.bool true, HP0),
      evCall cfg 3000 0 9 (partArgs k) HP0 = some (.agg (stg kd n o v x u), HP0),
      some (AV.int .u8 (h.tmod 9)) = some (.int .u8 0)])
    (by kernel_rfl) ⟨(ex), (fine), (hq), (by rw [e] <;> rfl)⟩

theorem w8 (h k kd x u : Int) (n o v : List UInt8) (e : h.tmod 9 = 8) (hq : evCall cfg 3000 0 9 (partArgs k) HP0 = some (.agg (stg kd n o v x u), HP0)) : evCall cfg 3001 0 4 [.int .u8 h, .int .u8 k] [] = some (.bool true, []) :=
  evP (k := 3000) [(1, 0, .res (.bool true) []), (5, 1, .res (.bool true) HP0), (6, 2, .res (.agg (stg kd n o v x u)) HP0), (7, 1, .val (.int .u8 8))]
    (φs := [evCall cfg 3000 0 6 [] [] = some (.bool true, []),
      evCall cfg 3000 0 8 [.agg [.arr 3 0 0 1, .arr 6 1 0 1]] HP0 = some (.bool true, HP0),
      evCall cfg 3000 0 9 (partArgs k) HP0 = some (.agg (stg kd n o v x u), HP0),
      some (AV.int .u8 (h.tmod 9)) = some (.int .u8 8)])
    (by kernel_rfl) ⟨(ex), (fine), (hq), (by rw [e] <;> rfl)⟩

theorem w3_0 (h k kd x u : Int) (n o v : List UInt8) (e : h.tmod 9 = 3) (hq : evCall cfg 3000 0 9 (partArgs k) HP0 = some (.agg (stg kd n o v x u), HP0)) (e2 : k.tmod 4 = 0) : evCall cfg 3001 0 4 [.int .u8 h, .int .u8 k] [] = some (.bool true, []) :=
  evP (k := 3000) [(1, 0, .res (.bool true) []), (5, 1, .res (.bool true) HP0), (6, 2, .res (.agg (stg kd n o v x u)) HP0), (7, 1, .val (.int .u8 3)), (21, 4, .val (.int .u8 0))]
    (φs := [evCall cfg 3000 0 6 [] [] = some (.bool true, []),
      evCall cfg 3000 0 8 [.agg [.arr 3 0 0 1, .arr 6 1 0 1]] HP0 = some (.bool true, HP0),
      evCall cfg 3000 0 9 (partArgs k) HP0 = some (.agg (stg kd n o v x u), HP0),
      some (AV.int .u8 (h.tmod 9)) = some (.int .u8 3),
      some (AV.int .u8 (k.tmod 4)) = some (.int .u8 0)])
    (by kernel_rfl) ⟨(ex), (fine), (hq), (by rw [e] <;> rfl), (by rw [e2] <;> rfl)⟩

theorem w3_1 (h k kd x u : Int) (n o v : List UInt8) (e : h.tmod 9 = 3) (hq : evCall cfg 3000 0 9 (partArgs k) HP0 = some (.agg (stg kd n o v x u), HP0)) (e2 : k.tmod 4 = 1) : evCall cfg 3001 0 4 [.int .u8 h, .int .u8 k] [] = some (.bool true, []) :=
  evP (k := 3000) [(1, 0, .res (.bool true) []), (5, 1, .res (.bool true) HP0), (6, 2, .res (.agg (stg kd n o v x u)) HP0), (7, 1, .val (.int .u8 3)), (21, 4, .val (.int .u8 1))]
    (φs := [evCall cfg 3000 0 6 [] [] = some (.bool true, []),
      evCall cfg 3000 0 8 [.agg [.arr 3 0 0 1, .arr 6 1 0 1]] HP0 = some (.bool true, HP0),
      evCall cfg 3000 0 9 (partArgs k) HP0 = some (.agg (stg kd n o v x u), HP0),
      some (AV.int .u8 (h.tmod 9)) = some (.int .u8 3),
      some (AV.int .u8 (k.tmod 4)) = some (.int .u8 1)])
    (by kernel_rfl) ⟨(ex), (fine), (hq), (by rw [e] <;> rfl), (by rw [e2] <;> rfl)⟩

theorem w3_2 (h k kd x u : Int) (n o v : List UInt8) (e : h.tmod 9 = 3) (hq : evCall cfg 3000 0 9 (partArgs k) HP0 = some (.agg (stg kd n o v x u), HP0)) (e2 : k.tmod 4 = 2) : evCall cfg 3001 0 4 [.int .u8 h, .int .u8 k] [] = some (.bool true, []) :=
  evP (k := 3000) [(1, 0, .res (.bool true) []), (5, 1, .res (.bool true) HP0), (6, 2, .res (.agg (stg kd n o v x u)) HP0), (7, 1, .val (.int .u8 3)), (21, 4, .val (.int .u8 2))]
    (φs := [evCall cfg 3000 0 6 [] [] = some (.bool true, []),
      evCall cfg 3000 0 8 [.agg [.arr 3 0 0 1, .arr 6 1 0 1]] HP0 = some (.bool true, HP0),
      evCall cfg 3000 0 9 (partArgs k) HP0 = some (.agg (stg kd n o v x u), HP0),
      some (AV.int .u8 (h.tmod 9)) = some (.int .u8 3),
      some (AV.int .u8 (k.tmod 4)) = some (.int .u8 2)])
    (by kernel_rfl) ⟨(ex), (fine), (hq), (by rw [e] <;> rfl), (by rw [e2] <;> rfl)⟩

theorem w3_3 (h k kd x u : Int) (n o v : List UInt8) (e : h.tmod 9 = 3) (hq : evCall cfg 3000 0 9 (partArgs k) HP0 = some (.agg (stg kd n o v x u), HP0)) (e2 : k.tmod 4 = 3) : evCall cfg 3001 0 4 [.int .u8 h, .int .u8 k] [] = some (.bool true, []) :=
  evP (k := 3000) [(1, 0, .res (.bool true) []), (5, 1, .res (.bool true) HP0), (6, 2, .res (.agg (stg kd n o v x u)) HP0), (7, 1, .val (.int .u8 3)), (21, 4, .val (.int .u8 3))]
    (φs := [evCall cfg 3000 0 6 [] [] = some (.bool true, []),
      evCall cfg 3000 0 8 [.agg [.arr 3 0 0 1, .arr 6 1 0 1]] HP0 = some (.bool true, HP0),
      evCall cfg 3000 0 9 (partArgs k) HP0 = some (.agg (stg kd n o v x u), HP0),
      some (AV.int .u8 (h.tmod 9)) = some (.int .u8 3),
      some (AV.int .u8 (k.tmod 4)) = some (.int .u8 3)])
    (by kernel_rfl) ⟨(ex), (fine), (hq), (by rw [e] <;> rfl), (by rw [e2] <;> rfl)⟩

theorem w4_0 (h k kd x u : Int) (n o v : List UInt8) (e : h.tmod 9 = 4) (hq : evCall cfg 3000 0 9 (partArgs k) HP0 = some (.agg (stg kd n o v x u), HP0)) (e2 : k.tmod 4 = 0) : evCall cfg 3001 0 4 [.int .u8 h, .int .u8 k] [] = some (.bool true, []) :=
  evP (k := 3000) [(1, 0, .res (.bool true) []), (5, 1, .res (.bool true) HP0), (6, 2, .res (.agg (stg kd n o v x u)) HP0), (7, 1, .val (.int .u8 4)), (23, 4, .val (.int .u8 0))]
    (φs := [evCall cfg 3000 0 6 [] [] = some (.bool true, []),
      evCall cfg 3000 0 8 [.agg [.arr 3 0 0 1, .arr 6 1 0 1]] HP0 = some (.bool true, HP0),
      evCall cfg 3000 0 9 (partArgs k) HP0 = some (.agg (stg kd n o v x u), HP0),
      some (AV.int .u8 (h.tmod 9)) = some (.int .u8 4),
      some (AV.int .u8 (k.tmod 4)) = some (.int .u8 0)])
    (by kernel_rfl) ⟨(ex), (fine), (hq), (by rw [e] <;> rfl), (by rw [e2] <;> rfl)⟩

theorem w4_1 (h k kd x u : Int) (n o v : List UInt8) (e : h.tmod 9 = 4) (hq : evCall cfg 3000 0 9 (partArgs k) HP0 = some (.agg (stg kd n o v x u), HP0)) (e2 : k.tmod 4 = 1) : evCall cfg 3001 0 4 [.int .u8 h, .int .u8 k] [] = some (.bool true, []) :=
  evP (k := 3000) [(1, 0, .res (.bool true) []), (5, 1, .res (.bool true) HP0), (6, 2, .res (.agg (stg kd n o v x u)) HP0), (7, 1, .val (.int .u8 4)), (23, 4, .val (.int .u8 1))]
    (φs := [evCall cfg 3000 0 6 [] [] = some (.bool true, []),
      evCall cfg 3000 0 8 [.agg [.arr 3 0 0 1, .arr 6 1 0 1]] HP0 = some (.bool true, HP0),
      evCall cfg 3000 0 9 (partArgs k) HP0 = some (.agg (stg kd n o v x u), HP0),
      some (AV.int .u8 (h.tmod 9)) = some (.int .u8 4),
      some (AV.int .u8 (k.tmod 4)) = some (.int .u8 1)])
    (by kernel_rfl) ⟨(ex), (fine), (hq), (by rw [e] <;> rfl), (by rw [e2] <;> rfl)⟩

theorem w4_2 (h k kd x u : Int) (n o v : List UInt8) (e : h.tmod 9 = 4) (hq : evCall cfg 3000 0 9 (partArgs k) HP0 = some (.agg (stg kd n o v x u), HP0)) (e2 : k.tmod 4 = 2) : evCall cfg 3001 0 4 [.int .u8 h, .int .u8 k] [] = some (.bool true, []) :=
  evP (k := 3000) [(1, 0, .res (.bool true) []), (5, 1, .res (.bool true) HP0), (6, 2, .res (.agg (stg kd n o v x u)) HP0), (7, 1, .val (.int .u8 4)), (23, 4, .val (.int .u8 2))]
    (φs := [evCall cfg 3000 0 6 [] [] = some (.bool true, []),
      evCall cfg 3000 0 8 [.agg [.arr 3 0 0 1, .arr 6 1 0 1]] HP0 = some (.bool true, HP0),
      evCall cfg 3000 0 9 (partArgs k) HP0 = some (.agg (stg kd n o v x u), HP0),
      some (AV.int .u8 (h.tmod 9)) = some (.int .u8 4),
      some (AV.int .u8 (k.tmod 4)) = some (.int .u8 2)])
    (by kernel_rfl) ⟨(ex), (fine), (hq), (by rw [e] <;> rfl), (by rw [e2] <;> rfl)⟩

theorem w4_3 (h k kd x u : Int) (n o v : List UInt8) (e : h.tmod 9 = 4) (hq : evCall cfg 3000 0 9 (partArgs k) HP0 = some (.agg (stg kd n o v x u), HP0)) (e2 : k.tmod 4 = 3) : evCall cfg 3001 0 4 [.int .u8 h, .int .u8 k] [] = some (.bool true, []) :=
  evP (k := 3000) [(1, 0, .res (.bool true) []), (5, 1, .res (.bool true) HP0), (6, 2, .res (.agg (stg kd n o v x u)) HP0), (7, 1, .val (.int .u8 4)), (23, 4, .val (.int .u8 3))]
    (φs := [evCall cfg 3000 0 6 [] [] = some (.bool true, []),
      evCall cfg 3000 0 8 [.agg [.arr 3 0 0 1, .arr 6 1 0 1]] HP0 = some (.bool true, HP0),
      evCall cfg 3000 0 9 (partArgs k) HP0 = some (.agg (stg kd n o v x u), HP0),
      some (AV.int .u8 (h.tmod 9)) = some (.int .u8 4),
      some (AV.int .u8 (k.tmod 4)) = some (.int .u8 3)])
    (by kernel_rfl) ⟨(ex), (fine), (hq), (by rw [e] <;> rfl), (by rw [e2] <;> rfl)⟩

theorem w5_0 (h k kd x u : Int) (n o v : List UInt8) (e : h.tmod 9 = 5) (hq : evCall cfg 3000 0 9 (partArgs k) HP0 = some (.agg (stg kd n o v x u), HP0)) (e2 : k.tmod 4 = 0) : evCall cfg 3001 0 4 [.int .u8 h, .int .u8 k] [] = some (.bool true, []) :=
  evP (k := 3000) [(1, 0, .res (.bool true) []), (5, 1, .res (.bool true) HP0), (6, 2, .res (.agg (stg kd n o v x u)) HP0), (7, 1, .val (.int .u8 5)), (26, 4, .val (.int .u8 0))]
    (φs := [evCall cfg 3000 0 6 [] [] = some (.bool true, []),
      evCall cfg 3000 0 8 [.agg [.arr 3 0 0 1, .arr 6 1 0 1]] HP0 = some (.bool true, HP0),
      evCall cfg 3000 0 9 (partArgs k) HP0 = some (.agg (stg kd n o v x u), HP0),
      some (AV.int .u8 (h.tmod 9)) = some (.int .u8 5),
      some (AV.int .u8 (k.tmod 4)) = some (.int .u8 0)])
    (by kernel_rfl) ⟨(ex), (fine), (hq), (by rw [e] <;> rfl), (by rw [e2] <;> rfl)⟩

theorem w5_1 (h k kd x u : Int) (n o v : List UInt8) (e : h.tmod 9 = 5) (hq : evCall cfg 3000 0 9 (partArgs k) HP0 = some (.agg (stg kd n o v x u), HP0)) (e2 : k.tmod 4 = 1) : evCall cfg 3001 0 4 [.int .u8 h, .int .u8 k] [] = some (.bool true, []) :=
  evP (k := 3000) [(1, 0, .res (.bool true) []), (5, 1, .res (.bool true) HP0), (6, 2, .res (.agg (stg kd n o v x u)) HP0), (7, 1, .val (.int .u8 5)), (26, 4, .val (.int .u8 1))]
    (φs := [evCall cfg 3000 0 6 [] [] = some (.bool true, []),
      evCall cfg 3000 0 8 [.agg [.arr 3 0 0 1, .arr 6 1 0 1]] HP0 = some (.bool true, HP0),
      evCall cfg 3000 0 9 (partArgs k) HP0 = some (.agg (stg kd n o v x u), HP0),
      some (AV.int .u8 (h.tmod 9)) = some (.int .u8 5),
      some (AV.int .u8 (k.tmod 4)) = some (.int .u8 1)])
    (by kernel_rfl) ⟨(ex), (fine), (hq), (by rw [e] <;> rfl), (by rw [e2] <;> rfl)⟩

theorem w5_2 (h k kd x u : Int) (n o v : List UInt8) (e : h.tmod 9 = 5) (hq : evCall cfg 3000 0 9 (partArgs k) HP0 = some (.agg (stg kd n o v x u), HP0)) (e2 : k.tmod 4 = 2) : evCall cfg 3001 0 4 [.int .u8 h, .int .u8 k] [] = some (.bool true, []) :=
  evP (k := 3000) [(1, 0, .res (.bool true) []), (5, 1, .res (.bool true) HP0), (6, 2, .res (.agg (stg kd n o v x u)) HP0), (7, 1, .val (.int .u8 5)), (26, 4, .val (.int .u8 2))]
    (φs := [evCall cfg 3000 0 6 [] [] = some (.bool true, []),
      evCall cfg 3000 0 8 [.agg [.arr 3 0 0 1, .arr 6 1 0 1]] HP0 = some (.bool true, HP0),
      evCall cfg 3000 0 9 (partArgs k) HP0 = some (.agg (stg kd n o v x u), HP0),
      some (AV.int .u8 (h.tmod 9)) = some (.int .u8 5),
      some (AV.int .u8 (k.tmod 4)) = some (.int .u8 2)])
    (by kernel_rfl) ⟨(ex), (fine), (hq), (by rw [e] <;> rfl), (by rw [e2] <;> rfl)⟩

theorem w5_3 (h k kd x u : Int) (n o v : List UInt8) (e : h.tmod 9 = 5) (hq : evCall cfg 3000 0 9 (partArgs k) HP0 = some (.agg (stg kd n o v x u), HP0)) (e2 : k.tmod 4 = 3) : evCall cfg 3001 0 4 [.int .u8 h, .int .u8 k] [] = some (.bool true, []) :=
  evP (k := 3000) [(1, 0, .res (.bool true) []), (5, 1, .res (.bool true) HP0), (6, 2, .res (.agg (stg kd n o v x u)) HP0), (7, 1, .val (.int .u8 5)), (26, 4, .val (.int .u8 3))]
    (φs := [evCall cfg 3000 0 6 [] [] = some (.bool true, []),
      evCall cfg 3000 0 8 [.agg [.arr 3 0 0 1, .arr 6 1 0 1]] HP0 = some (.bool true, HP0),
      evCall cfg 3000 0 9 (partArgs k) HP0 = some (.agg (stg kd n o v x u), HP0),
      some (AV.int .u8 (h.tmod 9)) = some (.int .u8 5),
      some (AV.int .u8 (k.tmod 4)) = some (.int .u8 3)])
    (by kernel_rfl) ⟨(ex), (fine), (hq), (by rw [e] <;> rfl), (by rw [e2] <;> rfl)⟩

theorem w6_0 (h k kd x u : Int) (n o v : List UInt8) (e : h.tmod 9 = 6) (hq : evCall cfg 3000 0 9 (partArgs k) HP0 = some (.agg (stg kd n o v x u), HP0)) (e2 : k.tmod 4 = 0) : evCall cfg 3001 0 4 [.int .u8 h, .int .u8 k] [] = some (.bool true, []) :=
  evP (k := 3000) [(1, 0, .res (.bool true) []), (5, 1, .res (.bool true) HP0), (6, 2, .res (.agg (stg kd n o v x u)) HP0), (7, 1, .val (.int .u8 6)), (28, 2, .val (.int .u8 0)), (34, 6, .res (.bool false) (HP6 (stg (0) n o v x u)))]
    (φs := [evCall cfg 3000 0 6 [] [] = some (.bool true, []),
      evCall cfg 3000 0 8 [.agg [.arr 3 0 0 1, .arr 6 1 0 1]] HP0 = some (.bool true, HP0),
      evCall cfg 3000 0 9 (partArgs k) HP0 = some (.agg (stg kd n o v x u), HP0),
      some (AV.int .u8 (h.tmod 9)) = some (.int .u8 6),
      some (AV.int .u8 (k.tmod 4)) = some (.int .u8 0),
      evCall cfg 3000 0 8 [.agg [.arr 3 0 0 1, .arr 6 4 0 2]] (HP6 (stg (0) n o v x u)) = some (.bool false, HP6 (stg (0) n o v x u))])
    (by kernel_rfl) ⟨(ex), (fine), (hq), (by rw [e] <;> rfl), (by rw [e2] <;> rfl), (right6 (0) n o v x u (fun hp k fl => kind_0 n o v x u hp k fl))⟩

theorem w6_1 (h k kd x u : Int) (n o v : List UInt8) (e : h.tmod 9 = 6) (hq : evCall cfg 3000 0 9 (partArgs k) HP0 = some (.agg (stg kd n o v x u), HP0)) (e2 : k.tmod 4 = 1) : evCall cfg 3001 0 4 [.int .u8 h, .int .u8 k] [] = some (.bool true, []) :=
  evP (k := 3000) [(1, 0, .res (.bool true) []), (5, 1, .res (.bool true) HP0), (6, 2, .res (.agg (stg kd n o v x u)) HP0), (7, 1, .val (.int .u8 6)), (28, 2, .val (.int .u8 1)), (34, 6, .res (.bool false) (HP6 (stg (5) n o v x u)))]
    (φs := [evCall cfg 3000 0 6 [] [] = some (.bool true, []),
      evCall cfg 3000 0 8 [.agg [.arr 3 0 0 1, .arr 6 1 0 1]] HP0 = some (.bool true, HP0),
      evCall cfg 3000 0 9 (partArgs k) HP0 = some (.agg (stg kd n o v x u), HP0),
      some (AV.int .u8 (h.tmod 9)) = some (.int .u8 6),
      some (AV.int .u8 (k.tmod 4)) = some (.int .u8 1),
      evCall cfg 3000 0 8 [.agg [.arr 3 0 0 1, .arr 6 4 0 2]] (HP6 (stg (5) n o v x u)) = some (.bool false, HP6 (stg (5) n o v x u))])
    (by kernel_rfl) ⟨(ex), (fine), (hq), (by rw [e] <;> rfl), (by rw [e2] <;> rfl), (right6 (5) n o v x u (fun hp k fl => kind_1 n o v x u hp k fl))⟩

theorem w6_2 (h k kd x u : Int) (n o v : List UInt8) (e : h.tmod 9 = 6) (hq : evCall cfg 3000 0 9 (partArgs k) HP0 = some (.agg (stg kd n o v x u), HP0)) (e2 : k.tmod 4 = 2) : evCall cfg 3001 0 4 [.int .u8 h, .int .u8 k] [] = some (.bool true, []) :=
  evP (k := 3000) [(1, 0, .res (.bool true) []), (5, 1, .res (.bool true) HP0), (6, 2, .res (.agg (stg kd n o v x u)) HP0), (7, 1, .val (.int .u8 6)), (28, 2, .val (.int .u8 2)), (34, 6, .res (.bool false) (HP6 (stg (-1) n o v x u)))]
    (φs := [evCall cfg 3000 0 6 [] [] = some (.bool true, []),
      evCall cfg 3000 0 8 [.agg [.arr 3 0 0 1, .arr 6 1 0 1]] HP0 = some (.bool true, HP0),
      evCall cfg 3000 0 9 (partArgs k) HP0 = some (.agg (stg kd n o v x u), HP0),
      some (AV.int .u8 (h.tmod 9)) = some (.int .u8 6),
      some (AV.int .u8 (k.tmod 4)) = some (.int .u8 2),
      evCall cfg 3000 0 8 [.agg [.arr 3 0 0 1, .arr 6 4 0 2]] (HP6 (stg (-1) n o v x u)) = some (.bool false, HP6 (stg (-1) n o v x u))])
    (by kernel_rfl) ⟨(ex), (fine), (hq), (by rw [e] <;> rfl), (by rw [e2] <;> rfl), (right6 (-1) n o v x u (fun hp k fl => kind_2 n o v x u hp k fl))⟩

theorem w6_3 (h k kd x u : Int) (n o v : List UInt8) (e : h.tmod 9 = 6) (hq : evCall cfg 3000 0 9 (partArgs k) HP0 = some (.agg (stg kd n o v x u), HP0)) (e2 : k.tmod 4 = 3) : evCall cfg 3001 0 4 [.int .u8 h, .int .u8 k] [] = some (.bool true, []) :=
  evP (k := 3000) [(1, 0, .res (.bool true) []), (5, 1, .res (.bool true) HP0), (6, 2, .res (.agg (stg kd n o v x u)) HP0), (7, 1, .val (.int .u8 6)), (28, 2, .val (.int .u8 3)), (34, 6, .res (.bool false) (HP6 (stg (9) n o v x u)))]
    (φs := [evCall cfg 3000 0 6 [] [] = some (.bool true, []),
      evCall cfg 3000 0 8 [.agg [.arr 3 0 0 1, .arr 6 1 0 1]] HP0 = some (.bool true, HP0),
      evCall cfg 3000 0 9 (partArgs k) HP0 = some (.agg (stg kd n o v x u), HP0),
      some (AV.int .u8 (h.tmod 9)) = some (.int .u8 6),
      some (AV.int .u8 (k.tmod 4)) = some (.int .u8 3),
      evCall cfg 3000 0 8 [.agg [.arr 3 0 0 1, .arr 6 4 0 2]] (HP6 (stg (9) n o v x u)) = some (.bool false, HP6 (stg (9) n o v x u))])
    (by kernel_rfl) ⟨(ex), (fine), (hq), (by rw [e] <;> rfl), (by rw [e2] <;> rfl), (right6 (9) n o v x u (fun hp k fl => kind_3 n o v x u hp k fl))⟩

theorem w7 (h k kd x u : Int) (n o v : List UInt8) (e : h.tmod 9 = 7) (hq : evCall cfg 3000 0 9 (partArgs k) HP0 = some (.agg (stg kd n o v x u), HP0)) (hx : ((IntKind.i64.wrap (IntKind.i64.wrap k + 1)) != 0) = true) : evCall cfg 3001 0 4 [.int .u8 h, .int .u8 k] [] = some (.bool true, []) :=
  evP (k := 3000) [(1, 0, .res (.bool true) []), (5, 1, .res (.bool true) HP0), (6, 2, .res (.agg (stg kd n o v x u)) HP0), (7, 1, .val (.int .u8 7)), (34, 6, .res (.bool false) (HP7 (stg 1 [] [124, 61] [98] (IntKind.i64.wrap (IntKind.i64.wrap k + 1)) 0)))]
    (φs := [evCall cfg 3000 0 6 [] [] = some (.bool true, []),
      evCall cfg 3000 0 8 [.agg [.arr 3 0 0 1, .arr 6 1 0 1]] HP0 = some (.bool true, HP0),
      evCall cfg 3000 0 9 (partArgs k) HP0 = some (.agg (stg kd n o v x u), HP0),
      some (AV.int .u8 (h.tmod 9)) = some (.int .u8 7),
      evCall cfg 3000 0 8 [.agg [.arr 3 0 0 1, .arr 6 1 0 1]] (HP7 (stg 1 [] [124, 61] [98] (IntKind.i64.wrap (IntKind.i64.wrap k + 1)) 0)) = some (.bool false, HP7 (stg 1 [] [124, 61] [98] (IntKind.i64.wrap (IntKind.i64.wrap k + 1)) 0))])
    (by kernel_rfl) ⟨(ex), (fine), (hq), (by rw [e] <;> rfl), (right7 1 [] [124, 61] [98] (IntKind.i64.wrap (IntKind.i64.wrap k + 1)) 0 (fun hp q fl => num_stage [] [124, 61] [98] (IntKind.i64.wrap (IntKind.i64.wrap k + 1)) 0 hx hp q fl))⟩

noncomputable def HL1 : St := ⟨setAt (slots Tryz.f4.ntmps [(5, .bool true), (7, .bool true), (9, .int .i64 0)]) 6 (.bx [.arr 3 0 0 1, .arr 6 1 0 1]), HP0⟩
noncomputable def HE1 : St := ⟨setAt (slots Tryz.f4.ntmps [(5, .bool true), (7, .bool true)]) 6 (.bx [.arr 3 17 0 9, .arr 6 1 0 1]), [Blk.dead, Blk.cells good, Blk.cells mat, Blk.dead, Blk.cells mat, Blk.dead, Blk.cells mat, Blk.dead, Blk.cells mat, Blk.dead, Blk.cells mat, Blk.dead, Blk.cells mat, Blk.dead, Blk.cells mat, Blk.dead, Blk.cells mat, Blk.cells (mat ++ mat ++ mat ++ mat ++ mat ++ mat ++ mat ++ mat ++ mat)]⟩
theorem loop1 : loopN cfg (evCall cfg 3000 0) 0 4 3000 (bodyOf Tryz.f4 12) 12 3000 HL1 = some (.exit 1, HE1) := by kernel_rfl

theorem w1 (h k kd x u : Int) (n o v : List UInt8) (e : h.tmod 9 = 1) (hq : evCall cfg 3000 0 9 (partArgs k) HP0 = some (.agg (stg kd n o v x u), HP0)) : evCall cfg 3001 0 4 [.int .u8 h, .int .u8 k] [] = some (.bool true, []) :=
  evP (k := 3000) [(1, 0, .res (.bool true) []), (5, 1, .res (.bool true) HP0), (6, 2, .res (.agg (stg kd n o v x u)) HP0), (7, 1, .val (.int .u8 1)), (12, 1000000, .loop (.exit 1) HE1)]
    (φs := [evCall cfg 3000 0 6 [] [] = some (.bool true, []),
      evCall cfg 3000 0 8 [.agg [.arr 3 0 0 1, .arr 6 1 0 1]] HP0 = some (.bool true, HP0),
      evCall cfg 3000 0 9 (partArgs k) HP0 = some (.agg (stg kd n o v x u), HP0),
      some (AV.int .u8 (h.tmod 9)) = some (.int .u8 1),
      loopN cfg (evCall cfg 3000 0) 0 4 3000 (bodyOf Tryz.f4 12) 12 3000 HL1 = some (.exit 1, HE1)])
    (by kernel_rfl) ⟨(ex), (fine), (hq), (by rw [e] <;> rfl), (loop1)⟩

noncomputable def HL2 : St := ⟨setAt (slots Tryz.f4.ntmps [(5, .bool true), (7, .bool true), (10, .int .i64 0)]) 6 (.bx [.arr 3 0 0 1, .arr 6 1 0 1]), HP0⟩
noncomputable def HE2 : St := ⟨setAt (slots Tryz.f4.ntmps [(5, .bool true), (7, .bool true)]) 6 (.bx [.arr 3 0 0 1, .arr 6 33 0 17]), [Blk.cells mat, Blk.dead, Blk.cells good, Blk.dead, Blk.cells good, Blk.dead, Blk.cells good, Blk.dead, Blk.cells good, Blk.dead, Blk.cells good, Blk.dead, Blk.cells good, Blk.dead, Blk.cells good, Blk.dead, Blk.cells good, Blk.dead, Blk.cells good, Blk.dead, Blk.cells good, Blk.dead, Blk.cells good, Blk.dead, Blk.cells good, Blk.dead, Blk.cells good, Blk.dead, Blk.cells good, Blk.dead, Blk.cells good, Blk.dead, Blk.cells good, Blk.cells (good ++ good ++ good ++ good ++ good ++ good ++ good ++ good ++ good ++ good ++ good ++ good ++ good ++ good ++ good ++ good ++ good)]⟩
theorem loop2 : loopN cfg (evCall cfg 3000 0) 0 4 3000 (bodyOf Tryz.f4 17) 17 3000 HL2 = some (.exit 3, HE2) := by kernel_rfl

theorem w2 (h k kd x u : Int) (n o v : List UInt8) (e : h.tmod 9 = 2) (hq : evCall cfg 3000 0 9 (partArgs k) HP0 = some (.agg (stg kd n o v x u), HP0)) : evCall cfg 3001 0 4 [.int .u8 h, .int .u8 k] [] = some (.bool true, []) :=
  evP (k := 3000) [(1, 0, .res (.bool true) []), (5, 1, .res (.bool true) HP0), (6, 2, .res (.agg (stg kd n o v x u)) HP0), (7, 1, .val (.int .u8 2)), (17, 1000000, .loop (.exit 3) HE2)]
    (φs := [evCall cfg 3000 0 6 [] [] = some (.bool true, []),
      evCall cfg 3000 0 8 [.agg [.arr 3 0 0 1, .arr 6 1 0 1]] HP0 = some (.bool true, HP0),
      evCall cfg 3000 0 9 (partArgs k) HP0 = some (.agg (stg kd n o v x u), HP0),
      some (AV.int .u8 (h.tmod 9)) = some (.int .u8 2),
      loopN cfg (evCall cfg 3000 0) 0 4 3000 (bodyOf Tryz.f4 17) 17 3000 HL2 = some (.exit 3, HE2)])
    (by kernel_rfl) ⟨(ex), (fine), (hq), (by rw [e] <;> rfl), (loop2)⟩


theorem wrong_law (h k : Int) (hh : 0 ≤ h ∧ h ≤ 255) (hk : 0 ≤ k ∧ k ≤ 255) : evCall cfg 3001 0 4 [.int .u8 h, .int .u8 k] [] = some (.bool true, []) := by
  obtain ⟨kd, n, o, v, x, u, hq⟩ := part_ev k hk
  have e : h.tmod 9 = h % 9 := Int.tmod_eq_emod_of_nonneg hh.1
  have e4 : k.tmod 4 = k % 4 := Int.tmod_eq_emod_of_nonneg hk.1
  have r9 : h % 9 = 0 ∨ h % 9 = 1 ∨ h % 9 = 2 ∨ h % 9 = 3 ∨ h % 9 = 4 ∨ h % 9 = 5 ∨ h % 9 = 6 ∨ h % 9 = 7 ∨ h % 9 = 8 := by omega
  have r4 : k % 4 = 0 ∨ k % 4 = 1 ∨ k % 4 = 2 ∨ k % 4 = 3 := by omega
  have hx : (IntKind.i64.wrap (IntKind.i64.wrap k + 1) != 0) = true := by
    have e1 : IntKind.i64.wrap k = k := by rw [i_eq]; split <;> omega
    have e2 : IntKind.i64.wrap (k + 1) = k + 1 := by rw [i_eq]; split <;> omega
    rw [e1, e2]; simp; omega
  rcases r9 with g | g | g | g | g | g | g | g | g
  · exact w0 h k kd x u n o v (by rw [e, g]) hq
  · exact w1 h k kd x u n o v (by rw [e, g]) hq
  · exact w2 h k kd x u n o v (by rw [e, g]) hq
  · rcases r4 with q | q | q | q
    · exact w3_0 h k kd x u n o v (by rw [e, g]) hq (by rw [e4, q])
    · exact w3_1 h k kd x u n o v (by rw [e, g]) hq (by rw [e4, q])
    · exact w3_2 h k kd x u n o v (by rw [e, g]) hq (by rw [e4, q])
    · exact w3_3 h k kd x u n o v (by rw [e, g]) hq (by rw [e4, q])
  · rcases r4 with q | q | q | q
    · exact w4_0 h k kd x u n o v (by rw [e, g]) hq (by rw [e4, q])
    · exact w4_1 h k kd x u n o v (by rw [e, g]) hq (by rw [e4, q])
    · exact w4_2 h k kd x u n o v (by rw [e, g]) hq (by rw [e4, q])
    · exact w4_3 h k kd x u n o v (by rw [e, g]) hq (by rw [e4, q])
  · rcases r4 with q | q | q | q
    · exact w5_0 h k kd x u n o v (by rw [e, g]) hq (by rw [e4, q])
    · exact w5_1 h k kd x u n o v (by rw [e, g]) hq (by rw [e4, q])
    · exact w5_2 h k kd x u n o v (by rw [e, g]) hq (by rw [e4, q])
    · exact w5_3 h k kd x u n o v (by rw [e, g]) hq (by rw [e4, q])
  · rcases r4 with q | q | q | q
    · exact w6_0 h k kd x u n o v (by rw [e, g]) hq (by rw [e4, q])
    · exact w6_1 h k kd x u n o v (by rw [e, g]) hq (by rw [e4, q])
    · exact w6_2 h k kd x u n o v (by rw [e, g]) hq (by rw [e4, q])
    · exact w6_3 h k kd x u n o v (by rw [e, g]) hq (by rw [e4, q])
  · exact w7 h k kd x u n o v (by rw [e, g]) hq hx
  · exact w8 h k kd x u n o v (by rw [e, g]) hq
end Go.Proofs.YtikpanghmcadoaaGreatDoor.E.S3
