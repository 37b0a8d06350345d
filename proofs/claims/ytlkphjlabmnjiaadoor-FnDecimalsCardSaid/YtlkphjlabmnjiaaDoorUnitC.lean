/- Contracts of texts, volumes, bars, conversions, comparisons and sums, part by part. -/
import Derived.Test.YtlkphjlabmnjiaaDoorUnitL
import Derived.Test.YtlkphjlabmnjiaaDoorDec
namespace Go.Proofs.YtlkphjlabmnjiaaDoor
open Go.RowKit
set_option linter.unusedVariables false
set_option linter.unusedSimpArgs false

theorem VolumeIn_spec' (v u m : Int) (X : Int) (Y : Int) (B : Bool) (hX : volX v u m = X) (hY : volY v u m = Y) (hB : volB v u m = B) (w : World) : Calls Tryd.prog 15 #[.agg #[.int .i64 v, .int .i64 u], .int .i64 m] w fun e w' => e = .returned (.tuple #[.int .i64 X, .int .i64 Y, .bool B]) ∧ Below w.heap.size w w' := by
  subst hX hY hB
  exact (VolumeIn_spec v u m w).mono fun e w' ⟨h, b⟩ => ⟨by rw [h, volOf_eq], b⟩

theorem VolumeIn_impl' (v u m : Int) (X : Int) (Y : Int) (B : Bool) (hX : volX v u m = X) (hY : volY v u m = Y) (hB : volB v u m = B) (w : World) (hfl : Flows w) : Calls Tryd.prog 16 #[.agg #[.int .i64 v, .int .i64 u], .int .i64 m] w fun e w' => e = .returned (.tuple #[.int .i64 X, .int .i64 Y, .bool B]) ∧ Below w.heap.size w w' := by
  subst hX hY hB
  exact (VolumeIn_impl v u m w hfl).mono fun e w' ⟨h, b⟩ => ⟨by rw [h, volOf_eq], b⟩

theorem BarsOf_spec' (m : Int) (X : Int) (Y : Int) (B : Bool) (hX : barX m = X) (hY : barY m = Y) (hB : barB m = B) (w : World) : Calls Tryd.prog 33 #[.int .i64 m] w fun e w' => e = .returned (.tuple #[.int .i64 X, .int .i64 Y, .bool B]) ∧ Below w.heap.size w w' := by
  subst hX hY hB
  exact (BarsOf_spec m w).mono fun e w' ⟨h, b⟩ => ⟨by rw [h, barsOf_eq], by obtain ⟨n, rfl⟩ := b; exact below_drewN (Below.refl _ _) n⟩

theorem BarsOf_impl' (m : Int) (X : Int) (Y : Int) (B : Bool) (hX : barX m = X) (hY : barY m = Y) (hB : barB m = B) (w : World) : Calls Tryd.prog 32 #[.int .i64 m] w fun e w' => e = .returned (.tuple #[.int .i64 X, .int .i64 Y, .bool B]) ∧ Below w.heap.size w w' := by
  subst hX hY hB
  exact (BarsOf_impl m w).mono fun e w' ⟨h, b⟩ => ⟨by rw [h, barsOf_eq], by obtain ⟨n, rfl⟩ := b; exact below_drewN (Below.refl _ _) n⟩

theorem DecimalText_spec' (x y z : Int) (s : ByteArray) (B : Bool) (hs : DecimalText_v0 x y z = s) (hB : DecimalText_v1 x y z = B) (w : World) : Calls Tryd.prog 23 #[.int .i64 x, .int .i64 y, .int .i64 z] w fun e w' => e = .returned (.tuple #[.string s, .bool B]) ∧ Below w.heap.size w w' := by
  subst hs hB
  exact (DecimalText_spec x y z w).mono fun e w' ⟨h, b⟩ => ⟨by exact h, b⟩

theorem DecimalText_impl' (x y z : Int) (s : ByteArray) (B : Bool) (hs : DecimalText_v0 x y z = s) (hB : DecimalText_v1 x y z = B) (w : World) (htab : Lib.TabIs Tryd.prog w "internal/strconv.uint64pow10" .u64 Lib.pow10Tab) : Calls Tryd.prog 24 #[.int .i64 x, .int .i64 y, .int .i64 z] w fun e w' => e = .returned (.tuple #[.string s, .bool B]) ∧ Below w.heap.size w w' := by
  subst hs hB
  exact (DecimalText_impl x y z w htab).mono fun e w' ⟨h, b⟩ => ⟨by exact h, b⟩

end Go.Proofs.YtlkphjlabmnjiaaDoor
