/- Amounts in units: sums, comparisons, volumes: plain numbers first, then the walks of both packages. -/
import Derived.Test.YtlkphjlabmnjiaaDoorUnit
namespace Go.Proofs.YtlkphjlabmnjiaaDoor
open Go.RowKit
set_option linter.unusedVariables false

theorem red_cross (x y : Nat) (hy : 0 < y) : redN x y * y = x * redD x y ∧ 0 < redD x y ∧ redN x y ≤ x ∧ redD x y ≤ y := by
  have g1 : 0 < Nat.gcd x y := Nat.gcd_pos_of_pos_right _ hy
  have ea := Nat.div_mul_cancel (Nat.gcd_dvd_left x y)
  have eb := Nat.div_mul_cancel (Nat.gcd_dvd_right x y)
  have hd := Nat.div_pos (Nat.le_of_dvd hy (Nat.gcd_dvd_right x y)) g1
  have l1 := Nat.div_le_self x (Nat.gcd x y)
  have l2 := Nat.div_le_self y (Nat.gcd x y)
  unfold redN redD
  generalize Nat.gcd x y = g at *
  generalize x / g = p at *
  generalize y / g = q at *
  refine ⟨?_, hd, l1, l2⟩
  rw [← ea, ← eb]; ac_rfl

/-- An amount in a unit as the program has it, and what it is worth in 36ths of a liter per minute. -/
def unN (v : Nat) (u k : Int) : Nat := redN (v * fnum u * fden k) (fden u * fnum k)
def unD (v : Nat) (u k : Int) : Nat := redD (v * fnum u * fden k) (fden u * fnum k)
theorem un_cross (v : Nat) (u k : Int) : unN v u k * fac k = v * fac u * unD v u k ∧ 0 < unD v u k := by
  obtain ⟨e1, e2⟩ := conv_same v u k
  have h3 := fac_bd k
  obtain ⟨h, hp, _⟩ := red_cross (v * fac u) (fac k) (by omega)
  unfold unN unD
  rw [e1, e2]
  exact ⟨h, hp⟩
theorem un_bd (v : Nat) (u k : Int) (hv : v ≤ 1000000) : unN v u k ≤ 2160000000 ∧ unD v u k ≤ 2160 := by
  obtain ⟨b0, b1⟩ := fnum_bd u
  obtain ⟨b2, b3⟩ := fden_bd u
  obtain ⟨b4, b5⟩ := fnum_bd k
  obtain ⟨b6, b7⟩ := fden_bd k
  obtain ⟨_, _, h1, h2⟩ := red_cross (v * fnum u * fden k) (fden u * fnum k) (Nat.mul_pos (by omega) (by omega))
  have m1 : v * fnum u ≤ 60000000 := Nat.le_trans (Nat.mul_le_mul hv b1) (by omega)
  have m2 : v * fnum u * fden k ≤ 2160000000 := Nat.le_trans (Nat.mul_le_mul m1 b7) (by omega)
  have m3 : fden u * fnum k ≤ 2160 := Nat.le_trans (Nat.mul_le_mul b3 b5) (by omega)
  exact ⟨Nat.le_trans h1 m2, Nat.le_trans h2 m3⟩
theorem fac_one : fac 1 = 36 := rfl

/-- Liters in minutes: both roads. -/
theorem vol_same (v m : Nat) (u : Int) : redN (unN v u 1 * m) (unD v u 1) = redN (v * fac u * m) 36 ∧ redD (unN v u 1 * m) (unD v u 1) = redD (v * fac u * m) 36 := by
  obtain ⟨h, hp⟩ := un_cross v u 1
  rw [fac_one] at h
  refine red_eq hp (by omega) ?_
  calc unN v u 1 * m * 36 = (unN v u 1 * 36) * m := by ac_rfl
    _ = (v * fac u * unD v u 1) * m := by rw [h]
    _ = v * fac u * m * unD v u 1 := by ac_rfl
/-- Sums: both roads. -/
theorem sum_same (v x : Nat) (u y k : Int) : redN (unN v u k * unD x y k + unN x y k * unD v u k) (unD v u k * unD x y k) = redN (v * fac u + x * fac y) (fac k) ∧ redD (unN v u k * unD x y k + unN x y k * unD v u k) (unD v u k * unD x y k) = redD (v * fac u + x * fac y) (fac k) := by
  obtain ⟨h, hp⟩ := un_cross v u k
  obtain ⟨h', hp'⟩ := un_cross x y k
  have h3 := fac_bd k
  generalize unN v u k = a at *
  generalize unD v u k = b at *
  generalize unN x y k = c at *
  generalize unD x y k = d at *
  refine red_eq (Nat.mul_pos hp hp') (by omega) ?_
  rw [Nat.add_mul, Nat.add_mul]
  have e1 : a * d * fac k = v * fac u * (b * d) := by
    calc a * d * fac k = (a * fac k) * d := by ac_rfl
      _ = (v * fac u * b) * d := by rw [h]
      _ = v * fac u * (b * d) := by ac_rfl
  have e2 : c * b * fac k = x * fac y * (b * d) := by
    calc c * b * fac k = (c * fac k) * b := by ac_rfl
      _ = (x * fac y * d) * b := by rw [h']
      _ = x * fac y * (b * d) := by ac_rfl
  rw [e1, e2]
/-- Comparisons: both roads. -/
theorem cmp_same (v x : Nat) (u y : Int) : (unN v u 1 * unD x y 1 < unN x y 1 * unD v u 1 ↔ v * fac u < x * fac y) ∧ (unN x y 1 * unD v u 1 < unN v u 1 * unD x y 1 ↔ x * fac y < v * fac u) := by
  obtain ⟨h, hp⟩ := un_cross v u 1
  obtain ⟨h', hp'⟩ := un_cross x y 1
  rw [fac_one] at h h'
  generalize unN v u 1 = a at *
  generalize unD v u 1 = b at *
  generalize unN x y 1 = c at *
  generalize unD x y 1 = d at *
  generalize v * fac u = s at *
  generalize x * fac y = r at *
  have hbd : 0 < b * d := Nat.mul_pos hp hp'
  have e1 : (a * d) * 36 = s * (b * d) := by
    calc (a * d) * 36 = (a * 36) * d := by ac_rfl
      _ = s * (b * d) := by rw [h]; ac_rfl
  have e2 : (c * b) * 36 = r * (b * d) := by
    calc (c * b) * 36 = (c * 36) * b := by ac_rfl
      _ = r * (b * d) := by rw [h']; ac_rfl
  generalize b * d = z at *
  generalize a * d = p at *
  generalize c * b = q at *
  constructor
  · have h1 : s * z < r * z ↔ s < r := Nat.mul_lt_mul_right hbd
    rw [← h1, ← e1, ← e2]; omega
  · have h1 : r * z < s * z ↔ r < s := Nat.mul_lt_mul_right hbd
    rw [← h1, ← e1, ← e2]; omega

/-! ### the walks -/
theorem reduce_r (a b : Nat) (w : World) (hb0 : 0 < b) (ha : a ≤ 4611686018427387904) (hb : b ≤ 4611686018427387904) :
    Calls Tryd.prog 42 #[.int .i64 a, .int .i64 b] w fun e w' => e = .returned (.tuple #[.int .i64 (redN a b), .int .i64 (redD a b)]) ∧ ∃ n, w' = w.drewN n := l3Reduce_any a b w hb0 ha hb
theorem lowest_r (a b : Nat) (w : World) (hb0 : 0 < b) (ha : a ≤ 4611686018427387904) (hb : b ≤ 4611686018427387904) :
    Calls Tryd.prog 49 #[.int .i64 a, .int .i64 b] w fun e w' => e = .returned (.tuple #[.int .i64 (redN a b), .int .i64 (redD a b)]) ∧ ∃ n, w' = w.drewN n := lowestTerms_any a b w hb0 ha hb
set_option maxRecDepth 100000 in
theorem l3Small_any (v : Nat) (u : Int) (w : World) (hv : v ≤ 1000000) (hu0 : 1 ≤ u) (hu1 : u ≤ 4) :
    Calls Tryd.prog 47 #[.agg #[.int .i64 v, .int .i64 u]] w fun e w' => e = .returned (.int .i64 ((v * fac u : Nat) : Int)) ∧ Below w.heap.size w w' := by
  have m1 : v * fac u ≤ 2160000000 := Nat.le_trans (Nat.mul_le_mul hv (fac_bd u).2) (by omega)
  obtain ⟨i1, j1⟩ := cast_bd m1
  clear m1
  have Hu := fun W => Lib.hid (l3Factor_any u W hu0 hu1)
  have hmul : IntKind.i64.wrap ((v : Int) * (fac u : Int)) = (v : Int) * (fac u : Int) := IntWalk.i64_in _ ⟨by omega, by omega⟩
  obtain ⟨W, hW⟩ : ∃ W, W = w.alloc (.cells #[.int .i64 v, .int .i64 u] 26) := ⟨_, rfl⟩
  have c0 : W.cell? ⟨w.heap.size, 0, none⟩ = some (.int .i64 v) := by rw [hW]; simp [go_sem]
  have c1 : W.cell? ⟨w.heap.size, 1, none⟩ = some (.int .i64 u) := by rw [hW]; simp [go_sem]
  have bW : Below w.heap.size w W := by rw [hW]; exact below_a1 _ _
  have sW : w.heap.size ≤ W.heap.size := bW.size
  have HW := Lib.hid hW
  clear hW
  go_enter Tryd.func47, Tryd.ntmps47
  go_wp2_with fail
  rw [← HW.out]
  go_region_held3 (fun w' => w'.cell? ⟨w.heap.size, 0, none⟩ = some (.int .i64 v) ∧ w'.cell? ⟨w.heap.size, 1, none⟩ = some (.int .i64 u) ∧ Below W.heap.size W w') (first | (go_split_ands; refine held2 c0 c1 ?_; first | exact (Below.refl _ _).drew | exact also (by assumption) (by assumption) | exact below_drewN (by assumption) _)) (first | (go_at_call 43; (with_reducible refine (Hu _).out.mono ?_); rintro e w3 ⟨rfl, b3⟩))
  clear hmul
  go_wp2
  go_ret
  rename_i hS
  exact ⟨ret_int (by simp), below_step bW hS.2.2 (Nat.le_refl _)⟩

def volOf (v u m : Int) : Value :=
  if goodAmt v u && inB m 0 10000 then .tuple #[.int .i64 (redN (v.toNat * fac u * m.toNat) 36), .int .i64 (redD (v.toNat * fac u * m.toNat) 36), .bool true] else .tuple #[.int .i64 0, .int .i64 0, .bool false]
theorem volOf_yes {v : Nat} {u : Int} {m : Nat} (hg : goodAmt v u = true) (hm : inB m 0 10000 = true) : .tuple #[.int .i64 (redN (v * fac u * m) 36), .int .i64 (redD (v * fac u * m) 36), .bool true] = volOf v u m := by
  rw [volOf, hg, hm]; rfl
theorem mul3_bd {a b c : Nat} (h : a ≤ 2160000000) (hb : b ≤ 10000) : 0 ≤ (a : Int) * (b : Int) ∧ (a : Int) * (b : Int) ≤ 21600000000000 := by
  have m := Nat.mul_le_mul h hb
  have := cast_bd m
  omega
set_option maxHeartbeats 400000 in
theorem VolumeIn_spec (v u m : Int) (w : World) :
    Calls Tryd.prog 15 #[.agg #[.int .i64 v, .int .i64 u], .int .i64 m] w fun e w' => e = .returned (volOf v u m) ∧ Below w.heap.size w w' := by
  cases hg : goodAmt v u
  · have Hg := Lib.hid hg
    clear hg
    go_enter Tryd.func15, Tryd.ntmps15
    go_wp2_with fail
    refine (l3Good_any _ _ _).mono ?_
    rintro e w1 ⟨rfl, b1⟩
    have c1 := b1
    have hc := keeps c1
    rw [Hg.out]
    go_wp2_with fail
    go_ret3
    exact ⟨by rw [volOf, Hg.out]; rfl, (below_step (below_a1 _ _) c1 (by simp <;> omega))⟩
  · cases hm : inB m 0 10000
    · have Hg := Lib.hid hg
      have Hm := Lib.hid hm
      clear hg hm
      go_enter Tryd.func15, Tryd.ntmps15
      go_wp2_with fail
      refine (l3Good_any _ _ _).mono ?_
      rintro e w1 ⟨rfl, b1⟩
      have c1 := b1
      have hc := keeps c1
      rw [Hg.out]
      go_wp2_with fail
      refine (l1In_any _ _ _ _).mono ?_
      rintro e w' ⟨rfl, rfl⟩
      rw [Hm.out]
      go_wp2_with fail
      go_ret3
      exact ⟨by rw [volOf, Hg.out, Hm.out]; rfl, (below_step (below_a1 _ _) c1 (by simp <;> omega))⟩
    · obtain ⟨hvv, huv⟩ : inB v 0 1000000 = true ∧ inB u 1 4 = true := by simpa [goodAmt] using hg
      obtain ⟨lv0, lv1⟩ := inB_yes.1 hvv
      obtain ⟨lu0, lu1⟩ := inB_yes.1 huv
      clear hvv huv
      obtain ⟨lm0, lm1⟩ := inB_yes.1 hm
      obtain ⟨v, rfl⟩ := Int.eq_ofNat_of_zero_le lv0
      obtain ⟨m, rfl⟩ := Int.eq_ofNat_of_zero_le lm0
      have m1 : v * fac u ≤ 2160000000 := Nat.le_trans (Nat.mul_le_mul (show v ≤ 1000000 by omega) (fac_bd u).2) (by omega)
      have m2 : v * fac u * m ≤ 21600000000000 := Nat.le_trans (Nat.mul_le_mul m1 (show m ≤ 10000 by omega)) (by omega)
      obtain ⟨i1, j1⟩ := cast_bd m1
      obtain ⟨i2, j2⟩ := cast_bd m2
      rw [Int.natCast_mul] at i2 j2
      have hred := fun W => reduce_r (v * fac u * m) 36 W (by omega) (by omega) (by omega)
      have hsm := fun W => l3Small_any v u W (by omega) lu0 lu1
      rw [Int.natCast_mul] at hsm
      rw [Int.natCast_mul, Int.natCast_mul] at hred
      have Hg := Lib.hid hg
      have Hm := Lib.hid hm
      clear hg hm
      clear m1 m2
      have Hred := Lib.hid hred
      have Hsm := Lib.hid hsm
      clear hred hsm
      go_enter Tryd.func15, Tryd.ntmps15
      go_wp2_with fail
      refine (l3Good_any _ _ _).mono ?_
      rintro e w1 ⟨rfl, b1⟩
      have c1 := b1
      have hc := keeps c1
      rw [Hg.out]
      go_wp2_with fail
      refine (l1In_any _ _ _ _).mono ?_
      rintro e w' ⟨rfl, rfl⟩
      rw [Hm.out]
      go_wp2_with fail
      refine (Hsm.out _).mono ?_
      rintro e w2 ⟨rfl, b2⟩
      have c2 := also c1 b2
      clear hc
      have hc := keeps c2
      go_wp2_with fail
      refine (Hred.out _).mono ?_
      rintro e w' ⟨rfl, n1, rfl⟩
      have c3 := below_drewN c2 n1
      clear hc
      go_wp2_with fail
      go_ret3
      exact ⟨congrArg Ending.returned (volOf_yes Hg.out Hm.out), (below_step (below_a1 _ _) c3 (by simp <;> omega))⟩
set_option maxHeartbeats 400000 in
theorem VolumeIn_impl (v u m : Int) (w : World) (hf : Flows w) :
    Calls Tryd.prog 16 #[.agg #[.int .i64 v, .int .i64 u], .int .i64 m] w fun e w' => e = .returned (volOf v u m) ∧ Below w.heap.size w w' := by
  cases hg : goodAmt v u
  · have Hg := Lib.hid hg
    clear hg
    go_enter Tryd.func16, Tryd.ntmps16
    go_wp2_with fail
    refine (IsValidAmount_impl _ _ _).mono ?_
    rintro e w1 ⟨rfl, b1⟩
    have c1 := b1
    have hc := keeps c1
    rw [Hg.out]
    go_wp2_with fail
    go_ret3
    exact ⟨by rw [volOf, Hg.out]; rfl, (below_step (below_a1 _ _) c1 (by simp <;> omega))⟩
  · cases hm : inB m 0 10000
    · have Hg := Lib.hid hg
      have Hm := Lib.hid hm
      clear hg hm
      go_enter Tryd.func16, Tryd.ntmps16
      go_wp2_with fail
      refine (IsValidAmount_impl _ _ _).mono ?_
      rintro e w1 ⟨rfl, b1⟩
      have c1 := b1
      have hc := keeps c1
      rw [Hg.out]
      go_wp2_with fail
      refine (inside_any _ _ _ _).mono ?_
      rintro e w' ⟨rfl, rfl⟩
      rw [Hm.out]
      go_wp2_with fail
      go_ret3
      exact ⟨by rw [volOf, Hg.out, Hm.out]; rfl, (below_step (below_a1 _ _) c1 (by simp <;> omega))⟩
    · obtain ⟨hvv, huv⟩ : inB v 0 1000000 = true ∧ inB u 1 4 = true := by simpa [goodAmt] using hg
      obtain ⟨lv0, lv1⟩ := inB_yes.1 hvv
      obtain ⟨lu0, lu1⟩ := inB_yes.1 huv
      clear hvv huv
      obtain ⟨lm0, lm1⟩ := inB_yes.1 hm
      obtain ⟨v, rfl⟩ := Int.eq_ofNat_of_zero_le lv0
      obtain ⟨m, rfl⟩ := Int.eq_ofNat_of_zero_le lm0
      obtain ⟨q1, q2⟩ := un_bd v u 1 (show v ≤ 1000000 by omega)
      obtain ⟨_, q3⟩ := un_cross v u 1
      obtain ⟨e1, e2⟩ := vol_same v m u
      have hin := fun W h => inUnit_any v u 1 W lv0 lv1 lu0 lu1 (by omega) (by omega) h
      rw [Int.toNat_natCast] at hin
      have hin' : ∀ W, Flows W → Calls Tryd.prog 45 #[.agg #[.int .i64 (v : Int), .int .i64 u], .int .i64 1] W fun e w' => e = .returned (.agg #[.int .i64 (unN v u 1), .int .i64 (unD v u 1)]) ∧ Below W.heap.size W w' := hin
      clear hin
      have hfin := volOf_yes (u := u) hg hm
      rw [← e1, ← e2] at hfin
      clear e1 e2
      have Hg := Lib.hid hg
      have Hm := Lib.hid hm
      clear hg hm
      generalize unN v u 1 = a at *
      generalize unD v u 1 = d at *
      have Hfin := Lib.hid hfin
      clear hfin
      have m1 : a * m ≤ 21600000000000 := Nat.le_trans (Nat.mul_le_mul q1 (show m ≤ 10000 by omega)) (by omega)
      obtain ⟨i1, j1⟩ := cast_bd m1
      have hred := fun W => lowest_r (a * m) d W q3 (by omega) (by omega)
      rw [Int.natCast_mul] at hred
      clear m1
      have Hred := Lib.hid hred
      have Hin := Lib.hid hin'
      clear hred hin'
      go_enter Tryd.func16, Tryd.ntmps16
      go_wp2_with fail
      refine (IsValidAmount_impl _ _ _).mono ?_
      rintro e w1 ⟨rfl, b1⟩
      have c1 := b1
      have hc := keeps c1
      rw [Hg.out]
      go_wp2_with fail
      refine (inside_any _ _ _ _).mono ?_
      rintro e w' ⟨rfl, rfl⟩
      rw [Hm.out]
      go_wp2_with fail
      refine (Hin.out _ (hf.later (below_step (below_a1 _ _) c1 (by simp <;> omega)))).mono ?_
      rintro e w2 ⟨rfl, b2⟩
      have c2 := also c1 b2
      clear hc
      have hc := keeps c2
      clear hc
      go_wp2_with fail
      refine (Hred.out _).mono ?_
      rintro e w' ⟨rfl, n1, rfl⟩
      go_wp2_with fail
      go_ret3
      exact ⟨congrArg Ending.returned Hfin.out, below_drewN ((below_step (below_a1 _ _) c2 (by simp <;> omega)).alloc (by have := c2.size; simp at this; omega) _) _⟩
end Go.Proofs.YtlkphjlabmnjiaaDoor
