/- Of an op and its contrary just one tells true: whatever is held against what. -/
import Derived.Test.YtkocimfdgdegfaaGreatDoorEca
import Derived.Test.YtkocimfdgdegfaaGreatDoorEcb
import Derived.Test.YtkocimfdgdegfaaGreatDoorEcc
import Derived.Test.YtkocimfdgdegfaaGreatDoorEcd
import Derived.Test.YtkocimfdgdegfaaGreatDoorEce
import Derived.Test.YtkocimfdgdegfaaGreatDoorEcf
import Derived.Test.YtkocimfdgdegfaaGreatDoorEcg
import Derived.Test.YtkocimfdgdegfaaGreatDoorEch
import Derived.Test.YtkocimfdgdegfaaGreatDoorEHead
set_option linter.unusedSimpArgs false
set_option linter.unusedVariables false
namespace Go.Proofs.YtkocimfdgdegfaaGreatDoor.E.S11
open Go Go.Proofs E E.R
theorem contrary_law (m : Int) (a : Int) (v line : List UInt8) (h : 0 ≤ a ∧ a ≤ 255) (hb : v.length + line.length ≤ 1048576) : evI (cfg m) 0 fContrary [.int .u8 a, .str v, .str line] [] = some (.bool true, []) := by
  obtain ⟨k, rfl⟩ : ∃ k : UInt8, ((k.toNat : Nat) : Int) = a := by
    refine ⟨UInt8.ofNat a.toNat, ?_⟩
    rw [UInt8.toNat_ofNat_of_lt' (by show a.toNat < 256; omega)]
    omega
  have ht : Int.tmod (k.toNat : Int) 8 = ((k.toNat % 8 : Nat) : Int) := by
    rw [Int.tmod_eq_emod_of_nonneg (by omega)]; omega
  have hv : v.length < 4294967281 := by omega
  have hl : line.length < 4294967281 := by omega
  rcases (by omega : k.toNat % 8 = 0 ∨ k.toNat % 8 = 1 ∨ k.toNat % 8 = 2 ∨ k.toNat % 8 = 3 ∨ k.toNat % 8 = 4 ∨ k.toNat % 8 = 5 ∨ k.toNat % 8 = 6 ∨ k.toNat % 8 = 7) with e | e | e | e | e | e | e | e <;> rw [e] at ht
  · exact con0 ht ex0 hv hl
  · exact con1 ht ex0 hv hl
  · exact con2 ht ex0 hv hl
  · exact con3 ht ex0 hv hl
  · exact con4 ht ex0 hv hl
  · exact con5 ht ex0 hv hl
  · exact con6 ht ex0 hv hl
  · exact con7 ht ex0 hv hl
end Go.Proofs.YtkocimfdgdegfaaGreatDoor.E.S11
