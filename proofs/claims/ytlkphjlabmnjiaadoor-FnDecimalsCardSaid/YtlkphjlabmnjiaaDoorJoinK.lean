/- Ways that meet again: what is known where they meet. No program is named here. -/
import Derived.Test.YtlkphjlabmnjiaaDoorWa
import Derived.Test.YtlkphjlabmnjiaaDoorSm
namespace Go.Proofs.YtlkphjlabmnjiaaDoor
open Go.RowKit
set_option linter.unusedVariables false

theorem joinK {P : Program} {Q : Exit → Act → World → Prop} {a : Act} {w : World} {x y : Code} (I : Nat → Act → World → Prop) (rest : ∀ n a w, I n a w → y.wp P Q a w)
    (first : ∀ K : Act → World → Prop, (∀ n a w, I n a w → K a w) → x.wp P (Exit.then K Q) a w) : (Code.seq x y).wp P Q a w :=
  wp_seq_k fun K h => first K (fun n a w hi => h a w (rest n a w hi))

end Go.Proofs.YtlkphjlabmnjiaaDoor
