/- The checksum of a text, plainly. No program is named here. -/
import Derived.Lib.Index
namespace Go.Proofs.YtdlcldaogcbnlaaDoor
set_option linter.unusedVariables false

def csum (l : List UInt8) : Int := l.foldl (fun h c => (41 * h + (c.toNat : Int) + 1) % 999979) 7
theorem csum_snoc (l : List UInt8) (c : UInt8) : csum (l ++ [c]) = (41 * csum l + (c.toNat : Int) + 1) % 999979 := by
  unfold csum; rw [List.foldl_append]; rfl
theorem csum_bd (l : List UInt8) : 0 ≤ csum l ∧ csum l < 999979 := by
  rcases List.eq_nil_or_concat l with rfl | ⟨l', c, rfl⟩
  · exact ⟨by decide, by decide⟩
  · rw [List.concat_eq_append, csum_snoc]; omega


end Go.Proofs.YtdlcldaogcbnlaaDoor
