/- Ways that meet again: what is known where they meet. No program is named here. -/
import Derived.Test.YtdlcldaogcbnlaaDoorWa
import Derived.Test.YtdlcldaogcbnlaaDoorSm
import Derived.Test.YtdlcldaogcbnlaaDoorCur
namespace Go.Proofs.YtdlcldaogcbnlaaDoor
open Go.RowKit
set_option linter.unusedVariables false

theorem joinK {P : Program} {Q : Exit → Act → World → Prop} {a : Act} {w : World} {x y : Code} (I : Nat → Act → World → Prop) (rest : ∀ n a w, I n a w → y.wp P Q a w)
    (first : ∀ K : Act → World → Prop, (∀ n a w, I n a w → K a w) → x.wp P (Exit.then K Q) a w) : (Code.seq x y).wp P Q a w :=
  wp_seq_k fun K h => first K (fun n a w hi => h a w (rest n a w hi))

/-- A picked number is a natural one. -/
theorem pick_nat (B N k : Nat) (n : Int) (w : World) (hc : Cur w B N k) (hk : k ≤ 1000000000000) (hn : n ≤ 9223372036854775807) :
    Calls Tryd.prog 54 #[.pointer (some ⟨B, 0, none⟩), .int .i64 n] w fun e w' => ∃ x : Nat, e = .returned (.int .i64 ((x : Nat) : Int)) ∧ ((n ≤ 1 → x = 0) ∧ (1 < n → (x : Int) < n)) ∧ Cur w' B N (k + 2) ∧ w.grownBy w' (some B) :=
  (pick_any B N k n w hc hk hn).mono fun e w' ⟨x, h1, h2, h3, h4⟩ => by
    obtain ⟨y, rfl⟩ := Int.eq_ofNat_of_zero_le h2.1
    exact ⟨y, h1, ⟨fun h => by have := h2.2.1 h; omega, h2.2.2⟩, h3, h4⟩

end Go.Proofs.YtdlcldaogcbnlaaDoor
