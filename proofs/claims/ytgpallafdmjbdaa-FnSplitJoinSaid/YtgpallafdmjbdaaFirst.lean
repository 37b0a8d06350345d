/- The walks of the laws FnExactConstants, FnExactLessString, FnExactChecksum: each answers true and turns nothing that was there. -/
import Derived.Test.YtgpallafdmjbdaaProg
import Derived.Test.YtgpallafdmjbdaaBase
import Derived.Test.YtgpallafdmjbdaaSum
namespace Go.Proofs.Ytgpallafdmjbdaa
open Go.RowKit
set_option linter.unusedVariables false

theorem w_FnExactConstants (w : World) : Calls Try.prog 3 #[] w fun e w' => e = .returned (.bool true) ∧ Below w.heap.size w w' := by
  go_enter Try.func3, Try.ntmps3
  go_wp2
  go_ret
  exact ⟨rfl, Below.refl _ _⟩

theorem LessString_spec (a b : ByteArray) (w : World) :
    Calls Try.prog 9 #[.string a, .string b] w fun e w' => e = .returned (.bool (Op.bytesLess a.toList b.toList)) ∧ w = w' := by
  go_enter Try.func9, Try.ntmps9
  go_wp2
  go_ret
  exact ⟨rfl, rfl⟩
theorem LessString_impl (a b : ByteArray) (w : World) :
    Calls Try.prog 10 #[.string a, .string b] w fun e w' => e = .returned (.bool (Op.bytesLess a.toList b.toList)) ∧ w = w' := by
  go_enter Try.func10, Try.ntmps10
  go_wp2
  go_ret
  exact ⟨rfl, rfl⟩

theorem w_FnExactLessString (a : ByteArray) (ha : a.size ≤ maxLen) (b : ByteArray) (hb : b.size ≤ maxLen) (w : World) :
    Calls Try.prog 4 #[.string a, .string b] w fun e w' => e = .returned (.bool true) ∧ Below w.heap.size w w' := by
  obtain ⟨x, hx⟩ : ∃ x, x = Op.bytesLess a.toList b.toList := ⟨_, rfl⟩
  have cs := LessString_spec a b w
  have ci := LessString_impl a b w
  rw [← hx] at cs ci
  clear hx
  go_enter Try.func4, Try.ntmps4
  go_wp2_with (first | (go_at_call 9; refine cs.mono ?_; rintro e w' ⟨rfl, rfl⟩) | (go_at_call 10; refine ci.mono ?_; rintro e w' ⟨rfl, rfl⟩))
  all_goals go_ret
  all_goals exact ⟨rfl, Below.refl _ _⟩

theorem w_FnExactChecksum (a : ByteArray) (ha : a.size ≤ maxLen) (w : World) :
    Calls Try.prog 5 #[.string a] w fun e w' => e = .returned (.bool true) ∧ Below w.heap.size w w' := by
  obtain ⟨n, b, hx⟩ : ∃ (n : Int) (b : Bool), sumOf a = .tuple #[.int .i64 n, .bool b] := by
    unfold sumOf; split <;> exact ⟨_, _, rfl⟩
  have cs := Checksum_spec a w ha
  have ci := Checksum_impl a w ha
  rw [hx] at cs ci
  clear hx
  go_enter Try.func5, Try.ntmps5
  go_wp2_with (first | (go_at_call 11; refine cs.mono ?_; rintro e w' ⟨rfl, rfl⟩) | (go_at_call 12; refine ci.mono ?_; rintro e w' ⟨rfl, rfl⟩))
  all_goals go_ret
  all_goals exact ⟨rfl, Below.refl _ _⟩

end Go.Proofs.Ytgpallafdmjbdaa
