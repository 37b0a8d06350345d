/- The units' names, as a row lists them. -/
import Derived.Test.YtlkphjlabmnjiaaDoorRows
import Derived.Test.YtlkphjlabmnjiaaDoorLaid
import Derived.Test.YtlkphjlabmnjiaaDoorAmtI
namespace Go.Proofs.YtlkphjlabmnjiaaDoor
open Go.RowKit
set_option linter.unusedVariables false
set_option linter.unusedSimpArgs false

theorem names_of {W : World} {l : List (String × DataW Unit)} (hp : (l.all fun x => x.2.handleName?.isNone) = true) (hL : laidMetH Tryd.prog l W) (hm : ("loop.example/g00853/impl.unitNames", Rows.laid_loop_example_g00853_impl_unitNames) ∈ l) : Names W := by
  obtain ⟨cs, fuel, p, hv, hd, hc⟩ := laid_of (g := 0) (t := 70) hp hL hm (by kernel_rfl) (by kernel_rfl)
  have hs := tab_strs (ss := [[], [108, 47, 109, 105, 110], [108, 47, 115], [109, 51, 47, 104], [109, 51, 47, 100]]) Tryd.underlying70 Tryd.underlying9 (by kernel_rfl) rfl hd
  intro k hk
  rw [hc]
  match k, hk with
  | 0, _ => simpa [unitB] using hs 0 _ rfl
  | 1, _ => simpa [unitB] using hs 1 _ rfl
  | 2, _ => simpa [unitB] using hs 2 _ rfl
  | 3, _ => simpa [unitB] using hs 3 _ rfl
  | 4, _ => simpa [unitB] using hs 4 _ rfl

end Go.Proofs.YtlkphjlabmnjiaaDoor
