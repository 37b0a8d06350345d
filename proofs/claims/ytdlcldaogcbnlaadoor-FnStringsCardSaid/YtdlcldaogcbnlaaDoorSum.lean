/- The checksum of a string: the loops of both packages compute one fold over its bytes; Checksum of both packages returns it where the string is short. -/
import Derived.Test.YtdlcldaogcbnlaaDoorProg
import Derived.Test.YtdlcldaogcbnlaaDoorBase
import Derived.Test.YtdlcldaogcbnlaaDoorSumP
namespace Go.Proofs.YtdlcldaogcbnlaaDoor
open Go.RowKit
set_option linter.unusedVariables false

set_option maxHeartbeats 400000 in
theorem sum_spec (s : ByteArray) (w : World) (hs : s.size ≤ maxLen) :
    Calls Tryd.prog 93 #[.string s] w fun e w' => e = .returned (.int .i64 (csum s.data.toList)) ∧ w = w' := by
  unfold maxLen at hs
  go_enter Tryd.func93, Tryd.ntmps93
  go_wp2
  go_loop [3, 4] (fun n i => ∃ k : Nat, k ≤ s.size ∧ i = .int .i64 k ∧ n = .int .i64 (csum (s.data.toList.take k))) (fun _ i => s.size - (intOf i).toNat)
  case atStart => exact ⟨0, Nat.zero_le _, rfl, rfl⟩
  case round =>
    obtain ⟨k, hk, rfl, rfl⟩ := hrel
    have hb := csum_bd (s.data.toList.take k)
    by_cases hlt : k < s.size
    · have hx : (s[k].toNat : Int) < 256 := by have := s[k].toNat_lt; omega
      have H := Lib.hid (csum_snoc (s.data.toList.take k) s[k])
      have HT := Lib.hid (bytes_snoc s k hlt)
      go_wp2
      go_round
      case rel => exact ⟨k + 1, by omega, by go_num, by rw [HT.out, H.out]⟩
      case measure => simp [intOf]; omega
    · go_wp2
      go_ret
      exact ⟨ret_int (by rw [List.take_of_length_le (by simp; omega)]), rfl⟩

set_option maxHeartbeats 400000 in
theorem sum_impl (s : ByteArray) (w : World) (hs : s.size ≤ maxLen) :
    Calls Tryd.prog 74 #[.string s] w fun e w' => e = .returned (.int .i64 (csum s.data.toList)) ∧ w = w' := by
  unfold maxLen at hs
  go_enter Tryd.func74, Tryd.ntmps74
  go_wp2
  go_loop [3, 4] (fun n i => ∃ k : Nat, k ≤ s.size ∧ i = .int .i64 k ∧ n = .int .i64 (csum (s.data.toList.take k))) (fun _ i => s.size - (intOf i).toNat)
  case atStart => exact ⟨0, Nat.zero_le _, rfl, rfl⟩
  case round =>
    obtain ⟨k, hk, rfl, rfl⟩ := hrel
    have hb := csum_bd (s.data.toList.take k)
    by_cases hlt : k < s.size
    · have hx : (s[k].toNat : Int) < 256 := by have := s[k].toNat_lt; omega
      have H := Lib.hid (csum_snoc (s.data.toList.take k) s[k])
      have HT := Lib.hid (bytes_snoc s k hlt)
      go_wp2
      go_round
      case rel => exact ⟨k + 1, by omega, by go_num, by rw [HT.out, H.out]⟩
      case measure => simp [intOf]; omega
    · go_wp2
      go_ret
      exact ⟨ret_int (by rw [List.take_of_length_le (by simp; omega)]), rfl⟩

/-- What Checksum returns: the checksum of a short string. -/
def sumOf (s : ByteArray) : Value := if s.size ≤ 4000 then .tuple #[.int .i64 (csum s.data.toList), .bool true] else .tuple #[.int .i64 0, .bool false]
end Go.Proofs.YtdlcldaogcbnlaaDoor
