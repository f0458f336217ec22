/- archivistlaw17.SplitTells answers true at every input. -/
import Derived.Test.YtfhemdhgpcpfaaaETells
import Derived.Test.YtfhemdhgpcpfaaaERng
set_option linter.unusedSimpArgs false
set_option linter.unusedVariables false
namespace Go.Proofs.Ytfhemdhgpcpfaaa.E.S1
open Go Go.Proofs E

theorem len_row (L : List (Int × Int)) (ts : List TV) : builtinE cfg 0 false ⟨ts, []⟩ .len [31] [rowV L] = some ⟨.v (.int .i64 ((L.map sp).length : Int)), ts, [], .z⟩ := by
  cases L with
  | nil => simp only [builtinE, lenE, ty31]; rfl
  | cons p l => simp only [builtinE, lenE, ty31, rowV, slcLen]; rfl

theorem tells {F T W : Int} (hF : R64 F) (hT : R64 T) (hW : R64 W) (S : Int) (asc : Bool) : Bad F T W S asc ∨ Good F T W S asc := by
  by_cases h : bad F T W
  · left
    exact ⟨many_bad hF hT hW 999 0 [] h, rm_bad hF hT hW 999 0 [] h, all_bad hF hT hW asc 998 0 [] h, rall_bad hF hT hW asc 998 0 [] h, beh_nil asc S 999 (by omega), rbh_nil asc S 998 0 []⟩
  · right
    obtain ⟨n, h1, h2, h3, h4, -⟩ := allL_get hT hF hW h asc
    have h0 : allL F T W asc ≠ [] := by intro e; rw [e] at h4; simp at h4; omega
    have hone := one_loop asc S (allL F T W asc) (by omega) 1000 n 0 (1000 - n - 1) (by omega)
    rw [show n + 1 + (1000 - n - 1) = 1000 by omega] at hone
    have hkl : (kept asc S (allL F T W asc)).length ≤ 64 := by
      have := List.length_filter_le (fun p => !out asc S p) (allL F T W asc)
      unfold kept; omega
    have htwo := two_loop (kept asc S (allL F T W asc)) hkl 1000 (kept asc S (allL F T W asc)).length 0 (1000 - (kept asc S (allL F T W asc)).length - 1) (by omega)
    rw [show (kept asc S (allL F T W asc)).length + 1 + (1000 - (kept asc S (allL F T W asc)).length - 1) = 1000 by omega] at htwo
    exact ⟨many F T W, (allL F T W asc).map sp, (kept asc S (allL F T W asc)).map sp, rowV (kept asc S (allL F T W asc)),
      many_good hF hT hW 999 0 [] h, rm_good hF hT hW 999 0 [] h, all_good hF hT hW h asc 998 0 [] (by omega), rall_good hF hT hW h asc 998 0 [] (by omega), hone,
      beh_ev asc S _ (by omega) h0 999 (by omega), rbh_ev asc S _ (by omega) 999 0 (by omega) [], len_row _, htwo⟩

theorem r_wrap (n : Int) : R64 (IntKind.i64.wrap n) := by
  rw [i_eq]; unfold R64; split <;> omega
theorem r_rem {n : Int} (h : R64 n) {d : Int} (hd : 0 < d) (hd2 : d ≤ 1000) : R64 (n.tmod d) := by
  have h1 := Int.tmod_lt_of_pos n hd
  have h2 : -d < n.tmod d := by
    rcases Int.le_total 0 n with h | h
    · have := Int.tmod_nonneg d h; omega
    · have := Int.tmod_lt_of_pos (-n) hd
      rw [Int.neg_tmod] at this; omega
  unfold R64; omega

theorem tells_law (a b w : Int) (asc : Bool) (h s : Int) (ha : R64 a) (hb : R64 b) (hw : R64 w) (hh : 0 ≤ h ∧ h ≤ 255) (_ : R64 s) :
    evCall cfg 1001 0 3 [.int .i64 a, .int .i64 b, .int .i64 w, .bool asc, .int .u8 h, .int .i64 s] [] = some (.bool true, []) := by
  have key : ∀ (j : Int) (v : Bool), (h.tmod 4 == j) = v → some (AV.bool (h.tmod 4 == j)) = some (.bool v) := fun j v e => by rw [e]
  have e : h.tmod 4 = h % 4 := Int.tmod_eq_emod_of_nonneg hh.1
  have no : ∀ j : Int, h % 4 ≠ j → (h.tmod 4 == j) = false := fun j hj => by rw [e]; simpa using hj
  have yes : ∀ j : Int, h % 4 = j → (h.tmod 4 == j) = true := fun j hj => by rw [e]; simpa using hj
  by_cases h1 : h % 4 = 1
  · rcases tells (r_rem ha (d := 50) (by omega) (by omega)) (r_rem hb (d := 50) (by omega) (by omega)) (r_rem hw (d := 20) (by omega) (by omega)) (s.tmod 60) asc with k | k
    · exact bad_1 a b w h s asc ex (key 1 _ (yes 1 h1)) k
    · exact good_1 a b w h s asc ex (key 1 _ (yes 1 h1)) k
  by_cases h2 : h % 4 = 2
  · rcases tells (r_wrap (-9223372036854775808 + AN a 255)) (r_wrap (9223372036854775807 - AN b 255)) hw s asc with k | k
    · exact bad_2 a b w h s asc ex (key 1 _ (no 1 h1)) (key 2 _ (yes 2 h2)) k
    · exact good_2 a b w h s asc ex (key 1 _ (no 1 h1)) (key 2 _ (yes 2 h2)) k
  by_cases h3 : h % 4 = 3
  · rcases tells (r_wrap (J (9223372036854775807 - AN b 255) - AN a 1023)) (r_wrap (9223372036854775807 - AN b 255)) (r_wrap _ : R64 (AN w 63)) s asc with k | k
    · exact bad_3 a b w h s asc ex (key 1 _ (no 1 h1)) (key 2 _ (no 2 h2)) (key 3 _ (yes 3 h3)) k
    · exact good_3 a b w h s asc ex (key 1 _ (no 1 h1)) (key 2 _ (no 2 h2)) (key 3 _ (yes 3 h3)) k
  rcases tells ha hb hw s asc with k | k
  · exact bad_0 a b w h s asc ex (key 1 _ (no 1 h1)) (key 2 _ (no 2 h2)) (key 3 _ (no 3 h3)) k
  · exact good_0 a b w h s asc ex (key 1 _ (no 1 h1)) (key 2 _ (no 2 h2)) (key 3 _ (no 3 h3)) k
end Go.Proofs.Ytfhemdhgpcpfaaa.E.S1
